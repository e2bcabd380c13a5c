import PyProof.Rows.All
import Wide.All
import OpenK.AllK
import Wide.FinOn
import HandS.ForMost
import HandS.ForExc
import HandS.Wide
import HandS.Defaults
import HandS.MakeKwOnly
import HandS.ExcInit
import PyProof.LongRange
import HandS.RaiseMore
import HandS.IsInst
import HandS.Ends
import HandS.Head0
import HandS.Head1
import HandS.Head2
import HandS.HeadEnd
import HandS.HeadHook1
import HandS.HeadHook2
import HandS.Head3
import PySem.Challenge.RW_roundledger_k02_whole_rounded_ratios
set_option Elab.async false
set_option linter.all false
set_option maxRecDepth 100000
set_option maxHeartbeats 4000000
set_option exponentiation.threshold 10000
/-! A small functional reading of the program: pure values, a heap of what changes, and how both are borne by the layer's heap. -/
namespace CI
open PySem PySem.Spec PyProof.Rows L2

/-- a value without a place: tuples, and lists, instances that no one changes any more -/
inductive Pv where
  | non | bl (b : Bool) | int (i : Int) | str (x : Str)
  | tup (xs : List Pv) | lst (xs : List Pv)
  | ins (c : Str) (fs : List (Str × Pv))
  | fn (f : Str) | ty (n : String)
  /-- the script: a list of ints that is read alone -/
  | scr (ns : List Int)
inductive Va where
  | pv (p : Pv) | ref (r : Nat)
/-- what stands at a place: a list, an instance, a dict; frz: given over to what does not change -/
inductive Ob where
  | lst (xs : List Va) | ins (c : Str) (fs : List (Str × Va)) | frz (p : Pv) | dct (kvs : List (Key × Va))
def Ob.isFrz : Ob → Bool
  | .frz _ => true
  | _ => false
abbrev Hh := List Ob
inductive Res (α : Type) where
  | ok (a : α) (h : Hh) | exc (c : Str) (fs : List (Str × Pv)) (h : Hh) | stuck
def Res.bind {α β : Type} (r : Res α) (k : α → Hh → Res β) : Res β :=
  match r with
  | .ok a h => k a h
  | .exc c fs h => .exc c fs h
  | .stuck => .stuck

/-- what the module's names hold -/
structure Gx where
  K : PySem.W.Frag
  mg : Str → Option Value

/-- a tuple at a that avoids av -/
def TupAt (G : Gx) (av : List Addr) (H : Hp) (a : Addr) (vs : List V) : Prop :=
  (Rd H a (.tup vs) ∧ a ∉ av) ∨ ∃ (o : Obj) (its : Array Value) (n : Nat), G.K.lookup a = some o ∧ o.cls = .type "tuple" ∧ o.data = .seq its n ∧ its.size ≤ sizeLine ∧ Vals vs its.toList
def LstAt (G : Gx) (av : List Addr) (H : Hp) (a : Addr) (vs : List V) : Prop :=
  Rd H a (.lst vs) ∧ a ∉ av
/-- the script's list: read, never written, or the module's own -/
def ScrAt (G : Gx) (av : List Addr) (H : Hp) (a : Addr) (vs : List V) : Prop :=
  (Rd H a (.lst vs) ∧ a ∉ av) ∨ ∃ (o : Obj) (its : Array Value) (n : Nat), G.K.lookup a = some o ∧ o.cls = .type "list" ∧ o.dict = none ∧ o.data = .seq its n ∧ its.size ≤ sizeLine ∧ Vals vs its.toList

mutual
def RepP (G : Gx) (av : List Addr) (H : Hp) : Pv → V → Prop
  | .non, v => v = .non
  | .bl b, v => v = .bl b
  | .int i, v => v = .int i
  | .str x, v => v = .str x
  | .tup xs, v => ∃ a vs, v = .ref a ∧ TupAt G av H a vs ∧ RepPs G av H xs vs
  | .lst xs, v => ∃ a vs, v = .ref a ∧ LstAt G av H a vs ∧ RepPs G av H xs vs
  | .ins c fs, v => ∃ a C dx gs, v = .ref a ∧ G.mg c = some (.ref C) ∧ H a = some (.ins C dx gs) ∧ a ∉ av ∧ RepFs G av H fs gs
  | .fn f, v => ∃ a, v = .ref a ∧ G.mg f = some (.ref a)
  | .ty n, v => v = .ty n
  | .scr ns, v => ∃ a, v = .ref a ∧ ScrAt G av H a (ns.map V.int)
def RepPs (G : Gx) (av : List Addr) (H : Hp) : List Pv → List V → Prop
  | [], vs => vs = []
  | x :: xs, vs => ∃ v r, vs = v :: r ∧ RepP G av H x v ∧ RepPs G av H xs r
def RepFs (G : Gx) (av : List Addr) (H : Hp) : List (Str × Pv) → List (Str × V) → Prop
  | [], vs => vs = []
  | x :: xs, vs => ∃ v r, vs = (x.1, v) :: r ∧ RepP G av H x.2 v ∧ RepFs G av H xs r
end

section
variable {G : Gx} {av av' : List Addr} {H H' : Hp}
theorem TupAt.mono {a vs} (k : ∀ a o, H a = some o → a ∉ av → H' a = some o ∧ a ∉ av') (h : TupAt G av H a vs) : TupAt G av' H' a vs := by
  rcases h with ⟨h, n⟩ | h
  · rcases h with h | ⟨o, h⟩
    · exact .inl ⟨.inl (k _ _ h n).1, (k _ _ h n).2⟩
    · exact .inl ⟨.inr ⟨o, (k _ _ h n).1⟩, (k _ _ h n).2⟩
  · exact .inr h
theorem LstAt.mono {a vs} (k : ∀ a o, H a = some o → a ∉ av → H' a = some o ∧ a ∉ av') (h : LstAt G av H a vs) : LstAt G av' H' a vs := by
  obtain ⟨h, n⟩ := h
  rcases h with h | ⟨o, h⟩
  · exact ⟨.inl (k _ _ h n).1, (k _ _ h n).2⟩
  · exact ⟨.inr ⟨o, (k _ _ h n).1⟩, (k _ _ h n).2⟩
theorem ScrAt.mono {a vs} (k : ∀ a o, H a = some o → a ∉ av → H' a = some o ∧ a ∉ av') (h : ScrAt G av H a vs) : ScrAt G av' H' a vs := by
  rcases h with ⟨h, n⟩ | h
  · rcases h with h | ⟨o, h⟩
    · exact .inl ⟨.inl (k _ _ h n).1, (k _ _ h n).2⟩
    · exact .inl ⟨.inr ⟨o, (k _ _ h n).1⟩, (k _ _ h n).2⟩
  · exact .inr h
theorem TupAt.sq {a vs} (h : TupAt G av H a vs) : SqT G.K H a vs := h.imp (·.1) id
theorem LstAt.sq {a vs} (h : LstAt G av H a vs) : SqL G.K H a vs := .inl h.1
theorem ScrAt.sq {a vs} (h : ScrAt G av H a vs) : SqL G.K H a vs := h.imp (·.1) id

mutual
theorem RepP.mono (k : ∀ a o, H a = some o → a ∉ av → H' a = some o ∧ a ∉ av') : ∀ {p : Pv} {v : V}, RepP G av H p v → RepP G av' H' p v
  | .non, v, h => by unfold RepP at h ⊢; exact h
  | .bl b, v, h => by unfold RepP at h ⊢; exact h
  | .int b, v, h => by unfold RepP at h ⊢; exact h
  | .str b, v, h => by unfold RepP at h ⊢; exact h
  | .tup xs, v, h => by
    unfold RepP at h ⊢
    obtain ⟨a, vs, e, t, r⟩ := h
    exact ⟨a, vs, e, t.mono k, RepPs.mono k r⟩
  | .lst xs, v, h => by
    unfold RepP at h ⊢
    obtain ⟨a, vs, e, t, r⟩ := h
    exact ⟨a, vs, e, t.mono k, RepPs.mono k r⟩
  | .ins c fs, v, h => by
    unfold RepP at h ⊢
    obtain ⟨a, C, dx, gs, e, m, t, n, r⟩ := h
    exact ⟨a, C, dx, gs, e, m, (k _ _ t n).1, (k _ _ t n).2, RepFs.mono k r⟩
  | .fn f, v, h => by unfold RepP at h ⊢; exact h
  | .ty f, v, h => by unfold RepP at h ⊢; exact h
  | .scr ns, v, h => by
    unfold RepP at h ⊢
    obtain ⟨a, e, t⟩ := h
    exact ⟨a, e, t.mono k⟩
theorem RepPs.mono (k : ∀ a o, H a = some o → a ∉ av → H' a = some o ∧ a ∉ av') : ∀ {p : List Pv} {v : List V}, RepPs G av H p v → RepPs G av' H' p v
  | [], v, h => by unfold RepPs at h ⊢; exact h
  | x :: xs, v, h => by
    unfold RepPs at h ⊢
    obtain ⟨y, r, e, h1, h2⟩ := h
    exact ⟨y, r, e, RepP.mono k h1, RepPs.mono k h2⟩
theorem RepFs.mono (k : ∀ a o, H a = some o → a ∉ av → H' a = some o ∧ a ∉ av') : ∀ {p : List (Str × Pv)} {v : List (Str × V)}, RepFs G av H p v → RepFs G av' H' p v
  | [], v, h => by unfold RepFs at h ⊢; exact h
  | x :: xs, v, h => by
    unfold RepFs at h ⊢
    obtain ⟨y, r, e, h1, h2⟩ := h
    exact ⟨y, r, e, RepP.mono k h1, RepFs.mono k h2⟩
end
end

/-- the places still open to change -/
def own : List Addr → Hh → List Addr
  | a :: α, ob :: h => if ob.isFrz then own α h else a :: own α h
  | _, _ => []
theorem mem_own : ∀ {α : List Addr} {h : Hh} {a : Addr}, a ∈ own α h ↔ ∃ (r : Nat) (ob : Ob), α[r]? = some a ∧ h[r]? = some ob ∧ ob.isFrz = false
  | [], h, a => by simp [own]
  | b :: α, [], a => by simp [own]
  | b :: α, ob :: h, a => by
    have ih := @mem_own α h a
    unfold own
    constructor
    · intro hm
      split at hm
      · obtain ⟨r, o, h1, h2, h3⟩ := ih.mp hm
        exact ⟨r + 1, o, by simpa using h1, by simpa using h2, h3⟩
      · rename_i hf
        rcases List.mem_cons.mp hm with e | hm
        · exact ⟨0, ob, by simp [e], by simp, by simpa using hf⟩
        · obtain ⟨r, o, h1, h2, h3⟩ := ih.mp hm
          exact ⟨r + 1, o, by simpa using h1, by simpa using h2, h3⟩
    · rintro ⟨r, o, h1, h2, h3⟩
      cases r with
      | zero =>
        simp at h1 h2
        subst h1 h2
        rw [h3]
        simp
      | succ r =>
        have : a ∈ own α h := ih.mpr ⟨r, o, by simpa using h1, by simpa using h2, h3⟩
        split
        · exact this
        · exact List.mem_cons_of_mem _ this

def RepV (G : Gx) (av α : List Addr) (H : Hp) : Va → V → Prop
  | .pv p, v => RepP G av H p v
  | .ref r, v => ∃ a, α[r]? = some a ∧ v = .ref a
def RepVs (G : Gx) (av α : List Addr) (H : Hp) : List Va → List V → Prop
  | [], vs => vs = []
  | x :: xs, vs => ∃ v r, vs = v :: r ∧ RepV G av α H x v ∧ RepVs G av α H xs r
def RepFV {κ : Type} (G : Gx) (av α : List Addr) (H : Hp) : List (κ × Va) → List (κ × V) → Prop
  | [], vs => vs = []
  | x :: xs, vs => ∃ v r, vs = (x.1, v) :: r ∧ RepV G av α H x.2 v ∧ RepFV G av α H xs r
def RepO (G : Gx) (av α : List Addr) (H : Hp) (a : Addr) : Ob → Prop
  | .lst xs => ∃ vs, H a = some (.lst vs) ∧ RepVs G av α H xs vs
  | .ins c fs => ∃ C dx gs, G.mg c = some (.ref C) ∧ H a = some (.ins C dx gs) ∧ RepFV G av α H fs gs
  | .frz p => RepP G av H p (.ref a)
  | .dct kvs => ∃ ks, H a = some (.dK ks) ∧ RepFV G av α H kvs ks

/-- the heap of what changes, borne by H: α the addresses, base what must not be touched besides -/
structure Rel (G : Gx) (base α : List Addr) (h : Hh) (H : Hp) : Prop where
  len : α.length = h.length
  nd : α.Nodup
  dis : ∀ a ∈ own α h, a ∉ base
  bas : ∀ a ∈ base, H a ≠ none
  trk : ∀ a ∈ α, H a ≠ none
  obs : ∀ (r : Nat) (a : Addr) (ob : Ob), α[r]? = some a → h[r]? = some ob → RepO G (base ++ own α h) α H a ob
/-- from one state to a later one -/
structure Evo (α : List Addr) (h : Hh) (H : Hp) (α' : List Addr) (h' : Hh) (H' : Hp) : Prop where
  ext : ∃ β, α' = α ++ β
  keep : ∀ a o, H a = some o → a ∉ own α h → H' a = some o
  ownm : ∀ a, a ∈ own α' h' → a ∈ own α h ∨ H a = none
theorem Evo.refl {α h H} : Evo α h H α h H := ⟨⟨[], by simp⟩, fun _ _ e _ => e, fun _ h => .inl h⟩
theorem Evo.trans {α h H α1 h1 H1 α2 h2 H2} (x : Evo α h H α1 h1 H1) (y : Evo α1 h1 H1 α2 h2 H2) : Evo α h H α2 h2 H2 := by
  obtain ⟨⟨β1, e1⟩, k1, o1⟩ := x
  obtain ⟨⟨β2, e2⟩, k2, o2⟩ := y
  refine ⟨⟨β1 ++ β2, by rw [e2, e1, List.append_assoc]⟩, fun a o e n => ?_, fun a m => ?_⟩
  · refine k2 a o (k1 a o e n) fun m => ?_
    rcases o1 a m with z | z
    · exact n z
    · rw [e] at z; cases z
  · rcases o2 a m with z | z
    · exact o1 a z
    · cases q : H a with
      | none => exact .inr rfl
      | some o =>
        by_cases n : a ∈ own α h
        · exact .inl n
        · rw [k1 a o q n] at z; cases z
section
variable {G : Gx} {base α α' : List Addr} {h h' : Hh} {H H' : Hp}
theorem Evo.mono (x : Evo α h H α' h' H') : ∀ a o, H a = some o → a ∉ base ++ own α h → H' a = some o ∧ a ∉ base ++ own α' h' := fun a o e n => by
  rw [List.mem_append, not_or] at n
  refine ⟨x.keep a o e n.2, ?_⟩
  rw [List.mem_append, not_or]
  refine ⟨n.1, fun m => ?_⟩
  rcases x.ownm a m with z | z
  · exact n.2 z
  · rw [e] at z; cases z
theorem Evo.pv (x : Evo α h H α' h' H') {p : Pv} {v : V} (r : RepP G (base ++ own α h) H p v) : RepP G (base ++ own α' h') H' p v := RepP.mono x.mono r
theorem Evo.pvs (x : Evo α h H α' h' H') {p : List Pv} {v : List V} (r : RepPs G (base ++ own α h) H p v) : RepPs G (base ++ own α' h') H' p v := RepPs.mono x.mono r
theorem Evo.get (x : Evo α h H α' h' H') {r : Nat} {a : Addr} (e : α[r]? = some a) : α'[r]? = some a := by
  obtain ⟨β, eb⟩ := x.ext
  rw [eb, List.getElem?_append_left (List.getElem?_eq_some_iff.mp e).1]
  exact e
theorem Evo.va (x : Evo α h H α' h' H') {p : Va} {v : V} (r : RepV G (base ++ own α h) α H p v) : RepV G (base ++ own α' h') α' H' p v := by
  cases p with
  | pv p => exact x.pv r
  | ref n =>
    obtain ⟨a, e, q⟩ := r
    exact ⟨a, x.get e, q⟩
theorem Evo.vas (x : Evo α h H α' h' H') : ∀ {p : List Va} {v : List V}, RepVs G (base ++ own α h) α H p v → RepVs G (base ++ own α' h') α' H' p v
  | [], _, r => r
  | _ :: _, _, r => by
    obtain ⟨v, q, e, r1, r2⟩ := r
    exact ⟨v, q, e, x.va r1, x.vas r2⟩
theorem Evo.fvs {κ : Type} (x : Evo α h H α' h' H') : ∀ {p : List (κ × Va)} {v : List (κ × V)}, RepFV G (base ++ own α h) α H p v → RepFV G (base ++ own α' h') α' H' p v
  | [], _, r => r
  | _ :: _, _, r => by
    obtain ⟨v, q, e, r1, r2⟩ := r
    exact ⟨v, q, e, x.va r1, x.fvs r2⟩
end

/-- the slots -/
abbrev Sl := List (Option Va)
def RepS (G : Gx) (av α : List Addr) (H : Hp) (s : Sl) (σ : L2.St) : Prop := s.length = σ.length ∧ ∀ (i : Nat) (v : Va), s[i]? = some (some v) → ∃ u, σ[i]? = some (some u) ∧ RepV G av α H v u
section
variable {G : Gx} {base α α' : List Addr} {h h' : Hh} {H H' : Hp} {s : Sl} {σ : L2.St}
theorem Evo.sl (x : Evo α h H α' h' H') (r : RepS G (base ++ own α h) α H s σ) : RepS G (base ++ own α' h') α' H' s σ :=
  ⟨r.1, fun i v e => let ⟨u, e1, q⟩ := r.2 i v e; ⟨u, e1, x.va q⟩⟩
theorem RepS.set {av : List Addr} (r : RepS G av α H s σ) (i : Nat) {v : Va} {u : V} (q : RepV G av α H v u) : RepS G av α H (s.set i (some v)) (σ.set i (some u)) := by
  refine ⟨by rw [List.length_set, List.length_set, r.1], fun j w e => ?_⟩
  by_cases hj : i = j
  · subst hj
    have hl : i < s.length := by
      have := (List.getElem?_eq_some_iff.mp e).1
      simpa using this
    rw [List.getElem?_set_self hl] at e
    cases e
    exact ⟨u, by rw [List.getElem?_set_self (by rw [← r.1]; exact hl)], q⟩
  · rw [List.getElem?_set_ne hj] at e
    obtain ⟨u', e', q'⟩ := r.2 j w e
    exact ⟨u', by rw [List.getElem?_set_ne hj]; exact e', q'⟩
end
end CI
namespace CI
open PySem PySem.Spec PyProof.Rows L2
section
variable {G : Gx} {av α : List Addr} {H : Hp} {v : V}
theorem repP_non : RepP G av H .non v ↔ v = .non := by unfold RepP; rfl
theorem repP_bl {b} : RepP G av H (.bl b) v ↔ v = .bl b := by unfold RepP; rfl
theorem repP_int {b} : RepP G av H (.int b) v ↔ v = .int b := by unfold RepP; rfl
theorem repP_str {b} : RepP G av H (.str b) v ↔ v = .str b := by unfold RepP; rfl
theorem repP_tup {xs} : RepP G av H (.tup xs) v ↔ ∃ a vs, v = .ref a ∧ TupAt G av H a vs ∧ RepPs G av H xs vs := by rw [RepP]
theorem repP_lst {xs} : RepP G av H (.lst xs) v ↔ ∃ a vs, v = .ref a ∧ LstAt G av H a vs ∧ RepPs G av H xs vs := by rw [RepP]
theorem repP_ins {c fs} : RepP G av H (.ins c fs) v ↔ ∃ a C dx gs, v = .ref a ∧ G.mg c = some (.ref C) ∧ H a = some (.ins C dx gs) ∧ a ∉ av ∧ RepFs G av H fs gs := by rw [RepP]
theorem repP_fn {f} : RepP G av H (.fn f) v ↔ ∃ a, v = .ref a ∧ G.mg f = some (.ref a) := by unfold RepP; rfl
theorem repP_ty {f} : RepP G av H (.ty f) v ↔ v = .ty f := by unfold RepP; rfl
theorem repP_scr {ns} : RepP G av H (.scr ns) v ↔ ∃ a, v = .ref a ∧ ScrAt G av H a (ns.map V.int) := by rw [RepP]
theorem repPs_nil {vs : List V} : RepPs G av H [] vs ↔ vs = [] := by rw [RepPs]
theorem repPs_cons {x xs} {vs : List V} : RepPs G av H (x :: xs) vs ↔ ∃ v r, vs = v :: r ∧ RepP G av H x v ∧ RepPs G av H xs r := by rw [RepPs]
theorem RepPs.length : ∀ {xs : List Pv} {vs : List V}, RepPs G av H xs vs → xs.length = vs.length
  | [], _, h => by rw [repPs_nil] at h; rw [h]; rfl
  | x :: xs, _, h => by
    rw [repPs_cons] at h
    obtain ⟨v, r, e, _, h⟩ := h
    rw [e, List.length_cons, List.length_cons, RepPs.length h]
theorem RepPs.get : ∀ {xs : List Pv} {vs : List V} {i : Nat} {x : Pv}, RepPs G av H xs vs → xs[i]? = some x → ∃ u, vs[i]? = some u ∧ RepP G av H x u
  | [], _, _, _, _, e => by simp at e
  | x :: xs, _, 0, y, h, e => by
    rw [repPs_cons] at h
    obtain ⟨v, r, e2, h1, _⟩ := h
    simp at e
    subst e2 e
    exact ⟨v, by simp, h1⟩
  | x :: xs, _, i + 1, y, h, e => by
    rw [repPs_cons] at h
    obtain ⟨v, r, e2, h1, h2⟩ := h
    subst e2
    obtain ⟨u, e3, q⟩ := RepPs.get (i := i) h2 (by simpa using e)
    exact ⟨u, by simpa using e3, q⟩
theorem RepPs.get' : ∀ {xs : List Pv} {vs : List V} {i : Nat} {u : V}, RepPs G av H xs vs → vs[i]? = some u → ∃ x, xs[i]? = some x ∧ RepP G av H x u := by
  intro xs vs i u h e
  have hl := h.length
  have hi : i < xs.length := by rw [hl]; exact (List.getElem?_eq_some_iff.mp e).1
  obtain ⟨u', e', q⟩ := h.get (i := i) (x := xs[i]) (List.getElem?_eq_getElem hi)
  rw [e] at e'
  cases e'
  exact ⟨xs[i], List.getElem?_eq_getElem hi, q⟩
theorem RepPs.append : ∀ {xs ys : List Pv} {vs ws : List V}, RepPs G av H xs vs → RepPs G av H ys ws → RepPs G av H (xs ++ ys) (vs ++ ws)
  | [], _, _, _, h, g => by rw [repPs_nil] at h; rw [h]; exact g
  | x :: xs, ys, _, ws, h, g => by
    rw [repPs_cons] at h
    obtain ⟨v, r, e, h1, h2⟩ := h
    rw [e]
    exact repPs_cons.mpr ⟨v, r ++ ws, rfl, h1, h2.append g⟩
theorem RepPs.one {x : Pv} {u : V} (h : RepP G av H x u) : RepPs G av H [x] [u] := repPs_cons.mpr ⟨u, [], rfl, h, repPs_nil.mpr rfl⟩
theorem repPs_ints : ∀ {ns : List Int} {vs : List V}, RepPs G av H (ns.map Pv.int) vs ↔ vs = ns.map V.int
  | [], vs => by rw [List.map_nil, repPs_nil, List.map_nil]
  | n :: ns, vs => by
    rw [List.map_cons, repPs_cons, List.map_cons]
    constructor
    · rintro ⟨v, r, e, h1, h2⟩
      rw [e, repP_int.mp h1, repPs_ints.mp h2]
    · intro e
      exact ⟨_, _, e, repP_int.mpr rfl, repPs_ints.mpr rfl⟩
theorem repVs_pv : ∀ {xs : List Pv} {vs : List V}, RepVs G av α H (xs.map Va.pv) vs ↔ RepPs G av H xs vs
  | [], vs => by rw [repPs_nil]; rfl
  | x :: xs, vs => by
    rw [repPs_cons]
    show (∃ v r, vs = v :: r ∧ RepP G av H x v ∧ RepVs G av α H (xs.map Va.pv) r) ↔ _
    simp only [repVs_pv]
theorem RepVs.length : ∀ {xs : List Va} {vs : List V}, RepVs G av α H xs vs → xs.length = vs.length
  | [], _, h => by cases h; rfl
  | x :: xs, _, h => by
    obtain ⟨v, r, e, _, h⟩ := h
    rw [e, List.length_cons, List.length_cons, RepVs.length h]
theorem RepVs.get : ∀ {xs : List Va} {vs : List V} {i : Nat} {x : Va}, RepVs G av α H xs vs → xs[i]? = some x → ∃ u, vs[i]? = some u ∧ RepV G av α H x u
  | [], _, _, _, _, e => by simp at e
  | x :: xs, _, 0, y, ⟨v, r, e2, h1, _⟩, e => by
    simp at e
    subst e2 e
    exact ⟨v, by simp, h1⟩
  | x :: xs, _, i + 1, y, ⟨v, r, e2, h1, h2⟩, e => by
    subst e2
    obtain ⟨u, e3, q⟩ := RepVs.get (i := i) h2 (by simpa using e)
    exact ⟨u, by simpa using e3, q⟩
theorem RepVs.append : ∀ {xs ys : List Va} {vs ws : List V}, RepVs G av α H xs vs → RepVs G av α H ys ws → RepVs G av α H (xs ++ ys) (vs ++ ws)
  | [], _, _, _, h, g => by cases h; exact g
  | x :: xs, ys, _, ws, ⟨v, r, e, h1, h2⟩, g => by
    rw [e]
    exact ⟨v, r ++ ws, rfl, h1, h2.append g⟩
theorem RepVs.set : ∀ {xs : List Va} {vs : List V} (i : Nat) {x : Va} {u : V}, RepVs G av α H xs vs → RepV G av α H x u → RepVs G av α H (xs.set i x) (vs.set i u)
  | [], _, _, _, _, h, _ => by cases h; rfl
  | y :: xs, _, 0, x, u, ⟨v, r, e, h1, h2⟩, g => by rw [e]; exact ⟨u, r, rfl, g, h2⟩
  | y :: xs, _, i + 1, x, u, ⟨v, r, e, h1, h2⟩, g => by rw [e]; exact ⟨v, r.set i u, rfl, h1, h2.set i g⟩
end
end CI
namespace CI
open PySem PySem.Spec PyProof.Rows L2
section
variable {G : Gx} {av α : List Addr} {H : Hp} {v : V}
theorem rv_non : RepV G av α H (.pv .non) v ↔ v = .non := by show RepP G av H .non v ↔ _; exact repP_non
theorem rv_bl {b} : RepV G av α H (.pv (.bl b)) v ↔ v = .bl b := by show RepP G av H (.bl b) v ↔ _; exact repP_bl
theorem rv_int {b} : RepV G av α H (.pv (.int b)) v ↔ v = .int b := by show RepP G av H (.int b) v ↔ _; exact repP_int
theorem rv_str {b} : RepV G av α H (.pv (.str b)) v ↔ v = .str b := by show RepP G av H (.str b) v ↔ _; exact repP_str
theorem rv_tup {xs} : RepV G av α H (.pv (.tup xs)) v ↔ ∃ a vs, v = .ref a ∧ TupAt G av H a vs ∧ RepPs G av H xs vs := by show RepP G av H (.tup xs) v ↔ _; exact repP_tup
theorem rv_lst {xs} : RepV G av α H (.pv (.lst xs)) v ↔ ∃ a vs, v = .ref a ∧ LstAt G av H a vs ∧ RepPs G av H xs vs := by show RepP G av H (.lst xs) v ↔ _; exact repP_lst
theorem rv_ins {c fs} : RepV G av α H (.pv (.ins c fs)) v ↔ ∃ a C dx gs, v = .ref a ∧ G.mg c = some (.ref C) ∧ H a = some (.ins C dx gs) ∧ a ∉ av ∧ RepFs G av H fs gs := by show RepP G av H (.ins c fs) v ↔ _; exact repP_ins
theorem rv_fn {f} : RepV G av α H (.pv (.fn f)) v ↔ ∃ a, v = .ref a ∧ G.mg f = some (.ref a) := by show RepP G av H (.fn f) v ↔ _; exact repP_fn
theorem rv_scr {ns} : RepV G av α H (.pv (.scr ns)) v ↔ ∃ a, v = .ref a ∧ ScrAt G av H a (ns.map V.int) := by show RepP G av H (.scr ns) v ↔ _; exact repP_scr
theorem rv_ty {f} : RepV G av α H (.pv (.ty f)) v ↔ v = .ty f := by show RepP G av H (.ty f) v ↔ _; exact repP_ty
end
end CI
namespace CI
open PySem PySem.Spec PyProof.Rows L2

/-- an exception of the module's own class c with its fields -/
def RepX (G : Gx) (av : List Addr) (H : Hp) (c : Str) (fs : List (Str × Pv)) (cls : Value) (d : Option Addr) : Prop :=
  ∃ C dx gs, G.mg c = some (.ref C) ∧ cls = .ref C ∧ d = some dx ∧ H dx = some (.xd gs) ∧ dx ∉ av ∧ RepFs G av H fs gs

/-- how an answer of the reading is borne -/
abbrev Rp (β γ : Type) := List Addr → List Addr → Hp → β → γ → Prop
def Pst (G : Gx) (E : XK) (base α : List Addr) (h : Hh) (H : Hp) {β γ : Type} (rep : Rp β γ) (r : Res β) (Q : γ → Hp → Prop) : Prop :=
  match r with
  | .ok v h' => ∀ α' u H', Evo α h H α' h' H' → Rel G base α' h' H' → rep (base ++ own α' h') α' H' v u → Q u H'
  | .exc c fs h' => ∀ α' cls d H', Evo α h H α' h' H' → Rel G base α' h' H' → RepX G (base ++ own α' h') H' c fs cls d → E cls d H'
  | .stuck => False
section
variable {G : Gx} {E : XK} {base α α1 : List Addr} {h h1 : Hh} {H H1 : Hp} {β γ δ ε : Type} {rep : Rp β γ} {rep2 : Rp δ ε} {Q : γ → Hp → Prop}
theorem Pst.step (x : Evo α h H α1 h1 H1) {r : Res β} (p : Pst G E base α h H rep r Q) : Pst G E base α1 h1 H1 rep r Q := by
  cases r with
  | ok v h' => exact fun α' u H' y => p α' u H' (x.trans y)
  | exc c fs h' => exact fun α' cls d H' y => p α' cls d H' (x.trans y)
  | stuck => exact p
theorem Pst.bind {r : Res β} {k : β → Hh → Res δ} {Q1 : γ → Hp → Prop} {Q2 : ε → Hp → Prop} (p : Pst G E base α h H rep2 (r.bind k) Q2)
    (f : ∀ v h1 α1 u H1, Evo α h H α1 h1 H1 → Rel G base α1 h1 H1 → rep (base ++ own α1 h1) α1 H1 v u → Pst G E base α1 h1 H1 rep2 (k v h1) Q2 → Q1 u H1) : Pst G E base α h H rep r Q1 := by
  cases r with
  | ok v h' => exact fun α' u H' x r q => f v h' α' u H' x r q (Pst.step x p)
  | exc c fs h' => exact p
  | stuck => exact p
/-- an answer that leaves all as it was -/
theorem Pst.same {v : β} {u : γ} (p : Pst G E base α h H rep (.ok v h) Q) (r : Rel G base α h H) (q : rep (base ++ own α h) α H v u) : Q u H := p α u H .refl r q
end

abbrev rV (G : Gx) : Rp Va V := fun av α H v u => RepV G av α H v u
abbrev rVs (G : Gx) : Rp (List Va) (List V) := fun av α H v u => RepVs G av α H v u
abbrev rB : Rp Bool Bool := fun _ _ _ b c => b = c
def rI : Rp (Option Int) (Option Int) := fun _ _ _ b c => b = c

/-- the reading of a piece of the program by d -/
def tG (G : Gx) (E : XK) {β γ : Type} (rep : Rp β γ) (d : Sl → Hh → Res β) : L2.St → Hp → (γ → Hp → Prop) → Prop := fun σ H Q =>
  ∃ base α s h, Rel G base α h H ∧ RepS G (base ++ own α h) α H s σ ∧ Pst G E base α h H rep (d s h) Q
abbrev Dn := Sl → Hh → Res Va
abbrev Dt := Sl → Hh → Res Bool
abbrev Da := Sl → Hh → Res (List Va)
abbrev gx (X : Cx) : Gx := ⟨X.K, X.mg⟩
def SE (X : Cx) (E : XK) (e : Expr) (d : Dn) : Prop := PE X e (tG (gx X) E (rV (gx X)) d)
def SA (X : Cx) (E : XK) (es : List Expr) (d : Da) : Prop := PA X es (tG (gx X) E (rVs (gx X)) d)
def STt (X : Cx) (E : XK) (e : Expr) (d : Dt) : Prop := PT X e (tG (gx X) E rB d)

theorem PE.imp {X : Cx} {e : Expr} {t t' : TE} (p : PE X e t) (f : ∀ σ H Q, t' σ H Q → t σ H Q) : PE X e t' := ⟨fun pins s σ H Q I q => p.run pins s σ H Q I (f σ H Q q)⟩
theorem PA.imp {X : Cx} {e : List Expr} {t t' : TA} (p : PA X e t) (f : ∀ σ H Q, t' σ H Q → t σ H Q) : PA X e t' := ⟨fun pos pins s σ H Q I q => p.run pos pins s σ H Q I (f σ H Q q)⟩
theorem PT.imp {X : Cx} {e : Expr} {t t' : TT} (p : PT X e t) (f : ∀ σ H Q, t' σ H Q → t σ H Q) : PT X e t' := ⟨fun pins s σ H Q I q => p.run pins s σ H Q I (f σ H Q q)⟩
theorem PW.imp {X : Cx} {e : Expr} {t t' : TT} (p : PW X e t) (f : ∀ σ H Q, t' σ H Q → t σ H Q) : PW X e t' := ⟨fun wh pins s σ H Q I q => p.run wh pins s σ H Q I (f σ H Q q)⟩
theorem PS.imp {X : Cx} {e : Stmt} {t t' : TS} (p : PS X e t) (f : ∀ D σ H, t' D σ H → t D σ H) : PS X e t' := ⟨fun pins s σ H D I q => p.run pins s σ H D I (f D σ H q)⟩
theorem PSs.imp {X : Cx} {e : List Stmt} {t t' : TS} (p : PSs X e t) (f : ∀ D σ H, t' D σ H → t D σ H) : PSs X e t' := ⟨fun pins s σ H D I q => p.run pins s σ H D I (f D σ H q)⟩
theorem PG.imp {X : Cx} {e : Expr} {t t' : TG} (p : PG X e t) (f : ∀ v σ H Q, t' v σ H Q → t v σ H Q) : PG X e t' := ⟨fun pins s σ H v u Q I r q => p.run pins s σ H v u Q I r (f v σ H Q q)⟩
theorem PGs.imp {X : Cx} {e : List Expr} {t t' : TGs} (p : PGs X e t) (f : ∀ v σ H Q, t' v σ H Q → t v σ H Q) : PGs X e t' := ⟨fun pins s σ H v u Q I r q => p.run pins s σ H v u Q I r (f v σ H Q q)⟩

/-! ### names, constants -/
def dVar (i : Nat) : Dn := fun s h => match s[i]? with
  | some (some v) => .ok v h
  | _ => .stuck
def dC (p : Pv) : Dn := fun _ h => .ok (.pv p) h
section
variable {X : Cx} {E : XK}
theorem se_var {i : Nat} {x : Str} {pos : Pos} (hN : X.N[i]? = some x) (hv : Vis X.env.scope x) (hd : (x == ("__debug__" : Str)) = false) (hcd : (x == ("__classdict__" : Str)) = false) : SE X E (.Name x pos) (dVar i) := by
  refine PE.imp (pe_var hN hv hd hcd) fun σ H Q ⟨base, α, s, h, R, S, P⟩ => ?_
  unfold dVar at P
  split at P
  · rename_i v e
    obtain ⟨u, e', r⟩ := S.2 i v e
    exact ⟨u, e', P.same R r⟩
  · exact P.elim
theorem se_int {i j pos} : SE X E (.Constant (.int i) j pos) (dC (.int i)) := PE.imp pe_int fun σ H Q ⟨base, α, s, h, R, S, P⟩ => P.same (u := V.int i) R (rv_int.mpr rfl)
theorem se_bl {i j pos} : SE X E (.Constant (.bool i) j pos) (dC (.bl i)) := PE.imp pe_bl fun σ H Q ⟨base, α, s, h, R, S, P⟩ => P.same (u := V.bl i) R (rv_bl.mpr rfl)
theorem se_non {j pos} : SE X E (.Constant .none j pos) (dC .non) := PE.imp pe_non fun σ H Q ⟨base, α, s, h, R, S, P⟩ => P.same (u := V.non) R (rv_non.mpr rfl)
theorem se_str {x j pos} : SE X E (.Constant (.str x) j pos) (dC (.str x)) := PE.imp pe_str fun σ H Q ⟨base, α, s, h, R, S, P⟩ => P.same (u := V.str x) R (rv_str.mpr rfl)
/-- a name of the module that holds p for ever -/
def Stat (G : Gx) (p : Pv) (v : V) : Prop := ∀ av H, RepP G av H p v
theorem se_glob {x : Str} {p : Pv} {pos : Pos} (hg : Gl X x) (hm : ∃ u v, X.mg x = some u ∧ RelV v u ∧ Stat (gx X) p v) (hd : (x == ("__debug__" : Str)) = false) : SE X E (.Name x pos) (dC p) := by
  obtain ⟨u, v, hm, hr, hs⟩ := hm
  exact PE.imp (pe_glob hg hm hr hd) fun σ H Q ⟨base, α, s, h, R, S, P⟩ => P.same R (hs _ _)
end

/-! ### arguments -/
def daNil : Da := fun _ h => .ok [] h
def daCons (d : Dn) (r : Da) : Da := fun s h => (d s h).bind fun v h1 => (r s h1).bind fun vs h2 => .ok (v :: vs) h2
def notStar : Expr → Bool
  | .Starred .. => false
  | _ => true
theorem star_cons {e : Expr} {es : List Expr} {env : Env} (hn : notStar e = true) : starEach (e :: es) env = (false, eval e env) :: starEach es env := by
  cases e <;> first | rfl | cases hn
theorem star_any {pos : Pos} {env : Env} : ∀ {es : List Expr}, es.all notStar = true → (backTo pos (starEach es env)).any (·.1) = false
  | [], _ => rfl
  | e :: es, h => by
    rw [List.all_cons, Bool.and_eq_true] at h
    rw [star_cons h.1]
    show (false || (backTo pos (starEach es env)).any (·.1)) = false
    rw [star_any h.2]; rfl
section
variable {X : Cx} {E : XK}
theorem sa_nil : SA X E [] daNil := PA.imp pa_nil fun σ H Q ⟨base, α, s, h, R, S, P⟩ => P.same (u := []) R rfl
theorem sa_cons {e : Expr} {es : List Expr} {d : Dn} {r : Da} (hn : notStar e = true) (ha : SE X E e d) (hr : SA X E es r) : SA X E (e :: es) (daCons d r) := by
  refine PA.imp (pa_cons ha hr (star_cons hn)) fun σ H Q ⟨base, α, s, h, R, S, P⟩ => ?_
  refine ⟨base, α, s, h, R, S, P.bind fun v h1 α1 u H1 x1 R1 q1 P1 => ?_⟩
  refine ⟨base, α1, s, h1, R1, x1.sl S, P1.bind fun vs h2 α2 us H2 x2 R2 q2 P2 => ?_⟩
  exact P2.same R2 ⟨u, us, rfl, x2.va q1, q2⟩
end

/-! ### two-place operations on values -/
abbrev Op2 := Va → Va → Hh → Res Va
def dBin (f : Op2) (a b : Dn) : Dn := fun s h => (a s h).bind fun x h1 => (b s h1).bind fun y h2 => f x y h2
/-- r is what f tells -/
def OpS (X : Cx) (E : XK) (f : Op2) (r : R2) : Prop := ∀ base α h H x y u w Q, Rel (gx X) base α h H → RepV (gx X) (base ++ own α h) α H x u → RepV (gx X) (base ++ own α h) α H y w →
  Pst (gx X) E base α h H (rV (gx X)) (f x y h) Q → r u w H Q
section
variable {X : Cx} {E : XK} {f : Op2} {r : R2} {a b c : Expr} {da db dc : Dn} {pos : Pos}
theorem bin_rd (ho : OpS X E f r) : ∀ σ H Q, tG (gx X) E (rV (gx X)) (dBin f da db) σ H Q → tOp r (tG (gx X) E (rV (gx X)) da) (tG (gx X) E (rV (gx X)) db) σ H Q := by
  intro σ H Q ⟨base, α, s, h, R, S, P⟩
  refine ⟨base, α, s, h, R, S, P.bind fun v h1 α1 u H1 x1 R1 q1 P1 => ?_⟩
  refine ⟨base, α1, s, h1, R1, x1.sl S, P1.bind fun v2 h2 α2 u2 H2 x2 R2 q2 P2 => ?_⟩
  exact ho base α2 h2 H2 v v2 u u2 Q R2 (x2.va q1) q2 P2
theorem se_bin {op : Operator} (ho : OpR X (binaryOp op) r) (hs : OpS X E f r) (ha : SE X E a da) (hb : SE X E b db) : SE X E (.BinOp a op b pos) (dBin f da db) := PE.imp (pe_op ho ha hb) (bin_rd hs)
theorem se_cmp {op : CmpOp} (ho : OpR X (compareOp op) r) (hs : OpS X E f r) (ha : SE X E a da) (hb : SE X E b db) (hm : behindInMarks op b = false) : SE X E (.Compare a [op] [b] pos) (dBin f da db) := PE.imp (pe_cmpR ho ha hb hm) (bin_rd hs)
/-- a value that is a truth -/
def asB (r : Res Va) : Res Bool := r.bind fun v h => match v with
  | .pv (.bl b) => .ok b h
  | _ => .stuck
def tVB (d : Dn) : Dt := fun s h => asB (d s h)
theorem vb_rd {d : Dn} : ∀ σ H Q, tG (gx X) E rB (tVB d) σ H Q → tG (gx X) E (rV (gx X)) d σ H fun x H' => ∃ k, x = .bl k ∧ Q k H' := by
  intro σ H Q ⟨base, α, s, h, R, S, P⟩
  refine ⟨base, α, s, h, R, S, Pst.bind P fun v h1 α1 u H1 x1 R1 q1 P1 => ?_⟩
  split at P1
  · rename_i b
    exact ⟨b, rv_bl.mp q1, P1.same R1 rfl⟩
  · exact P1.elim
theorem st_cmp {op : CmpOp} (ho : OpR X (compareOp op) r) (hs : OpS X E f r) (ha : SE X E a da) (hb : SE X E b db) (hm : behindInMarks op b = false) : STt X E (.Compare a [op] [b] pos) (tVB (dBin f da db)) := by
  refine PT.imp (pt_cmpR ho ha hb hm) fun σ H Q q => ?_
  have q2 := vb_rd σ H Q q
  exact bin_rd hs σ H _ q2
theorem st_val {d : Dn} (h : SE X E a d) (he : ∀ whole, isTrue a X.env whole = (do let v ← whole; standAt a.pos; holding [v] (truthy v))) : STt X E a (tVB d) :=
  PT.imp (pt_val h he) fun σ H Q q => vb_rd σ H Q q
end
end CI
namespace CI
open PySem PySem.Spec PyProof.Rows L2

/-! ### what may be read at a value -/
/-- the items of a tuple, a list -/
def rdl (h : Hh) : Va → Option (List Va)
  | .pv (.tup ps) => some (ps.map .pv)
  | .pv (.lst ps) => some (ps.map .pv)
  | .pv (.scr ns) => some (ns.map fun n => .pv (.int n))
  | .ref r => match h[r]? with
    | some (.lst xs) => some xs
    | some (.frz (.lst ps)) => some (ps.map .pv)
    | some (.frz (.tup ps)) => some (ps.map .pv)
    | _ => none
  | _ => none
theorem rdl_ok {G : Gx} {base α : List Addr} {h : Hh} {H : Hp} (R : Rel G base α h H) : ∀ {v : Va} {u : V} {xs : List Va}, RepV G (base ++ own α h) α H v u → rdl h v = some xs →
    ∃ a vs, u = .ref a ∧ (SqL G.K H a vs ∨ SqT G.K H a vs) ∧ RepVs G (base ++ own α h) α H xs vs := by
  intro v u xs r e
  have key : ∀ (p : Pv) (u : V), RepP G (base ++ own α h) H p u → ∀ ps, (p = .lst ps ∨ p = .tup ps) → ∃ a vs, u = .ref a ∧ (SqL G.K H a vs ∨ SqT G.K H a vs) ∧ RepVs G (base ++ own α h) α H (ps.map .pv) vs := by
    intro p u r ps hp
    rcases hp with rfl | rfl
    · obtain ⟨a, vs, e, t, q⟩ := repP_lst.mp r
      exact ⟨a, vs, e, .inl t.sq, repVs_pv.mpr q⟩
    · obtain ⟨a, vs, e, t, q⟩ := repP_tup.mp r
      exact ⟨a, vs, e, .inr t.sq, repVs_pv.mpr q⟩
  unfold rdl at e
  split at e
  · cases e; exact key _ u r _ (.inr rfl)
  · cases e; exact key _ u r _ (.inl rfl)
  · rename_i ns
    cases e
    obtain ⟨a, e, t⟩ := rv_scr.mp r
    refine ⟨a, _, e, .inl t.sq, ?_⟩
    have q := repVs_pv (G := G) (av := base ++ own α h) (α := α) (H := H).mpr (repPs_ints.mpr (rfl : ns.map V.int = _))
    rw [List.map_map] at q
    exact q
  · rename_i n
    obtain ⟨a, ea, rfl⟩ := r
    split at e
    · rename_i q
      cases e
      obtain ⟨vs, e1, q1⟩ := R.obs _ _ _ ea q
      exact ⟨a, vs, rfl, .inl (SqL.of e1), q1⟩
    · rename_i q
      cases e
      exact key _ _ (R.obs _ _ _ ea q) _ (.inl rfl)
    · rename_i q
      cases e
      exact key _ _ (R.obs _ _ _ ea q) _ (.inr rfl)
    · cases e
  · cases e

/-! ### ints -/
def onInts (c : Int → Int → Bool) (g : Int → Int → Pv) : Op2 := fun x y h => match x, y with
  | .pv (.int i), .pv (.int j) => if c i j then .ok (.pv (g i j)) h else .stuck
  | _, _ => .stuck
theorem ints_case {α : Type} {x y : Va} {P : Res α → Prop} {f : Int → Int → Res α} (p : P (match x, y with
  | .pv (.int i), .pv (.int j) => f i j
  | _, _ => .stuck)) (hs : ¬ P .stuck) : ∃ i j, x = .pv (.int i) ∧ y = .pv (.int j) ∧ P (f i j) := by
  split at p
  · exact ⟨_, _, rfl, rfl, p⟩
  · exact absurd p hs
theorem onInts_ok {X : Cx} {E : XK} {c : Int → Int → Bool} {C : Int → Int → Prop} {g : Int → Int → Pv} {gv : Int → Int → V} (hc : ∀ i j, c i j = true → C i j) (hg : ∀ i j av α H, RepV (gx X) av α H (.pv (g i j)) (gv i j)) :
    OpS X E (onInts c g) (L2.rI C gv) := by
  intro base α h H x y u w Q R rx ry P
  unfold onInts at P
  split at P
  · rename_i i j
    split at P
    · rename_i hcc
      exact ⟨i, j, rv_int.mp rx, rv_int.mp ry, hc i j hcc, P.same R (hg i j _ _ _)⟩
    · exact P.elim
  · exact P.elim
theorem onInts_ok0 {X : Cx} {E : XK} {g : Int → Int → Pv} {gv : Int → Int → V} (hg : ∀ i j av α H, RepV (gx X) av α H (.pv (g i j)) (gv i j)) :
    OpS X E (onInts (fun _ _ => true) g) (rI0 gv) := by
  intro base α h H x y u w Q R rx ry P
  unfold onInts at P
  split at P
  · rename_i i j
    exact ⟨i, j, rv_int.mp rx, rv_int.mp ry, P.same R (hg i j _ _ _)⟩
  · exact P.elim
/-- two rules, by cases -/
theorem OpS.inl {X : Cx} {E : XK} {f : Op2} {r r' : R2} (h : OpS X E f r) : OpS X E f (fun x y H Q => r x y H Q ∨ r' x y H Q) := fun base α h1 H x y u w Q R rx ry P => .inl (h base α h1 H x y u w Q R rx ry P)

/-- a number that isn't too great -/
def mulOk (i j : Int) : Bool := decide (i.natAbs < 2 ^ 64) || decide (j.natAbs < 2 ^ 64) || (decide (i.natAbs.log2 < 400000) && decide (j.natAbs.log2 < 400000))
theorem mulOk_int {i j : Int} (h : mulOk i j = true) : IntMulOk i j := by
  unfold mulOk at h
  simp only [Bool.or_eq_true, Bool.and_eq_true, decide_eq_true_eq] at h
  rcases h with (h | h) | ⟨h1, h2⟩
  · exact CMul.ok (.inl ⟨by omega, by omega⟩)
  · exact CMul.ok (.inr ⟨by omega, by omega⟩)
  · exact CMulW.ok (by unfold CMulW; omega)
theorem op_mulG {X : Cx} : OpR X (binaryOp .Mult) (L2.rI (fun i j => mulOk i j = true) fun i j => .int (i * j)) := opI fun _ _ _ _ _ _ _ hc q => mul_int q (mulOk_int hc)
def divOk (j : Int) : Bool := decide (j ≠ 0) && decide (j.natAbs.log2 < 9000)
theorem op_fdivG {X : Cx} : OpR X (binaryOp .FloorDiv) (L2.rI (fun _ j => divOk j = true) fun i j => .int (i.fdiv j)) := opI fun _ _ _ _ _ _ _ hc q => by
  unfold divOk at hc
  simp only [Bool.and_eq_true, decide_eq_true_eq] at hc
  exact floordiv_int hc.1 q (.inl (PyProof.noPylong_of_log2 hc.2))
def powOk (i j : Int) : Bool := decide (0 ≤ j) && decide (j ≤ 1000000) && decide (i.natAbs < 2 ^ 64)
theorem op_powG {X : Cx} : OpR X (binaryOp .Pow) (L2.rI (fun i j => powOk i j = true) fun i j => .int (i ^ j.toNat)) := opI fun _ _ _ _ _ _ _ hc q => by
  unfold powOk at hc
  simp only [Bool.and_eq_true, decide_eq_true_eq] at hc
  exact pow_int_small hc.1.1 hc.1.2 hc.2 q

def oSub : Op2 := onInts (fun _ _ => true) fun i j => .int (i - j)
def oMul : Op2 := onInts mulOk fun i j => .int (i * j)
def oDiv : Op2 := onInts (fun _ j => divOk j) fun i j => .int (i.fdiv j)
def oMod : Op2 := onInts (fun _ j => decide (j ≠ 0)) fun i j => .int (i.fmod j)
def oPow : Op2 := onInts powOk fun i j => .int (i ^ j.toNat)
section
variable {X : Cx} {E : XK} {a b : Expr} {da db : Dn} {pos : Pos}
theorem se_sub (ha : SE X E a da) (hb : SE X E b db) : SE X E (.BinOp a .Sub b pos) (dBin oSub da db) := se_bin op_sub (onInts_ok0 fun _ _ _ _ _ => rv_int.mpr rfl) ha hb
theorem se_mul (ha : SE X E a da) (hb : SE X E b db) : SE X E (.BinOp a .Mult b pos) (dBin oMul da db) := se_bin op_mulG (onInts_ok (fun _ _ h => h) fun _ _ _ _ _ => rv_int.mpr rfl) ha hb
theorem se_div (ha : SE X E a da) (hb : SE X E b db) : SE X E (.BinOp a .FloorDiv b pos) (dBin oDiv da db) := se_bin op_fdivG (onInts_ok (fun _ _ h => h) fun _ _ _ _ _ => rv_int.mpr rfl) ha hb
theorem se_mod (ha : SE X E a da) (hb : SE X E b db) : SE X E (.BinOp a .Mod b pos) (dBin oMod da db) := se_bin op_modN (onInts_ok (fun _ _ h => of_decide_eq_true h) fun _ _ _ _ _ => rv_int.mpr rfl) ha hb
theorem se_pow (ha : SE X E a da) (hb : SE X E b db) : SE X E (.BinOp a .Pow b pos) (dBin oPow da db) := se_bin op_powG (onInts_ok (fun _ _ h => h) fun _ _ _ _ _ => rv_int.mpr rfl) ha hb
end

/-! ### a new frozen object -/
theorem Rel.tracked {G : Gx} {base α : List Addr} {h : Hh} {H : Hp} (R : Rel G base α h H) {a : Addr} (m : a ∈ own α h) : H a ≠ none := by
  obtain ⟨r, ob, e1, e2, e3⟩ := mem_own.mp m
  have q := R.obs r a ob e1 e2
  intro z
  cases ob with
  | lst xs => obtain ⟨vs, e, _⟩ := q; rw [z] at e; cases e
  | ins c fs => obtain ⟨_, _, _, _, e, _⟩ := q; rw [z] at e; cases e
  | frz y => cases e3
  | dct kvs => obtain ⟨_, e, _⟩ := q; rw [z] at e; cases e
theorem Rel.avoids {G : Gx} {base α : List Addr} {h : Hh} {H : Hp} {p : Addr} (R : Rel G base α h H) (np : H p = none) : p ∉ base ++ own α h := by
  intro m
  rcases List.mem_append.mp m with m | m
  · exact R.bas p m np
  · exact R.tracked m np
/-- an object stands as it stood -/
theorem RepO.stay {G : Gx} {base α α' : List Addr} {h h' : Hh} {H H' : Hp} {a : Addr} {ob : Ob} (x : Evo α h H α' h' H') (k : ob.isFrz = false → H' a = H a) (q : RepO G (base ++ own α h) α H a ob) : RepO G (base ++ own α' h') α' H' a ob := by
  cases ob with
  | lst xs => obtain ⟨vs, e, r⟩ := q; exact ⟨vs, (k rfl).trans e, x.vas r⟩
  | ins c fs => obtain ⟨C, dx, gs, g, e, r⟩ := q; exact ⟨C, dx, gs, g, (k rfl).trans e, x.fvs r⟩
  | frz y => exact x.pv (G := G) q
  | dct kvs => obtain ⟨ks, e, r⟩ := q; exact ⟨ks, (k rfl).trans e, x.fvs r⟩
theorem Rel.laid {G : Gx} {base α : List Addr} {h : Hh} {H : Hp} {p : Addr} {o : HO} (R : Rel G base α h H) (np : H p = none) : Rel G base α h (upd H p o) ∧ Evo α h H α h (upd H p o) := by
  have ne : ∀ {b u}, H b = some u → b ≠ p := fun e => ne_of_none e np
  have ev : Evo α h H α h (upd H p o) := ⟨⟨[], by simp⟩, fun a u e _ => by rw [upd_ne (ne e)]; exact e, fun _ m => .inl m⟩
  have up : ∀ {a}, H a ≠ none → upd H p o a ≠ none := fun {a} this => by
    by_cases z : a = p
    · rw [z, upd_same]; exact fun q => nomatch q
    · rw [upd_ne z]; exact this
  refine ⟨⟨R.len, R.nd, R.dis, fun a m => up (R.bas a m), fun a m => up (R.trk a m), fun r a x e1 e2 => ?_⟩, ev⟩
  · refine RepO.stay (base := base) ev (fun hf => ?_) (R.obs r a x e1 e2)
    have t := R.tracked (mem_own.mpr ⟨r, x, e1, e2, hf⟩)
    exact upd_ne fun z => t (by rw [z]; exact np)
/-- an answer that is a new frozen object -/
theorem Pst.new {G : Gx} {E : XK} {base α : List Addr} {h : Hh} {H : Hp} {β γ : Type} {rep : Rp β γ} {v : β} {u : γ} {Q : γ → Hp → Prop} {p : Addr} {o : HO} (P : Pst G E base α h H rep (.ok v h) Q) (R : Rel G base α h H) (np : H p = none)
    (q : Evo α h H α h (upd H p o) → p ∉ base ++ own α h → rep (base ++ own α h) α (upd H p o) v u) : Q u (upd H p o) :=
  let ⟨R', ev⟩ := R.laid (o := o) np
  P α u _ ev R' (q ev (R.avoids np))

/-! ### what is given over: it changes no more -/
theorem own_set_frz {p : Pv} : ∀ {α : List Addr} {h : Hh} {r : Nat} {b : Addr}, b ∈ own α (h.set r (.frz p)) → b ∈ own α h
  | [], _, _, _, m => by simp [own] at m
  | _ :: _, [], _, _, m => by simp [own] at m
  | x :: α, ob :: h, 0, b, m => by
    rw [List.set_cons_zero, own, if_pos (show (Ob.frz p).isFrz = true from rfl)] at m
    rw [own]
    split
    · exact m
    · exact List.mem_cons_of_mem _ m
  | x :: α, ob :: h, r + 1, b, m => by
    rw [List.set_cons_succ, own] at m
    rw [own]
    split at m
    · rename_i hf
      rw [if_pos hf]; exact own_set_frz m
    · rename_i hf
      rw [if_neg hf]
      rcases List.mem_cons.mp m with e | m
      · rw [e]; exact List.mem_cons_self
      · exact List.mem_cons_of_mem _ (own_set_frz m)
theorem nodup_at {l : List Addr} (hN : l.Nodup) {i j : Nat} {x : Addr} (a : l[i]? = some x) (b : l[j]? = some x) : i = j := by
  obtain ⟨h1, e1⟩ := List.getElem?_eq_some_iff.mp a
  obtain ⟨h2, e2⟩ := List.getElem?_eq_some_iff.mp b
  exact (List.getElem_inj hN).mp (e1.trans e2.symm)
/-- the object at place r is given over -/
theorem Rel.frz {G : Gx} {base α : List Addr} {h : Hh} {H : Hp} {r : Nat} {a : Addr} {p : Pv} (R : Rel G base α h H) (ea : α[r]? = some a) (hr : r < h.length)
    (q : ∀ av, a ∉ av → (∀ b o, H b = some o → b ∉ base ++ own α h → b ∉ av) → RepP G av H p (.ref a)) (nb : a ∉ base) :
    Rel G base α (h.set r (.frz p)) H ∧ Evo α h H α (h.set r (.frz p)) H ∧ RepP G (base ++ own α (h.set r (.frz p))) H p (.ref a) := by
  have ev : Evo α h H α (h.set r (.frz p)) H := ⟨⟨[], by simp⟩, fun _ _ e _ => e, fun b m => .inl (own_set_frz m)⟩
  have na : a ∉ base ++ own α (h.set r (.frz p)) := by
    rw [List.mem_append, not_or]
    refine ⟨nb, fun m => ?_⟩
    obtain ⟨r2, ob, e1, e2, e3⟩ := mem_own.mp m
    have := nodup_at R.nd ea e1
    subst this
    rw [List.getElem?_set_self hr] at e2
    cases e2
    cases e3
  have rp : RepP G (base ++ own α (h.set r (.frz p))) H p (.ref a) := q _ na fun b o e n => (ev.mono (base := base) b o e n).2
  refine ⟨⟨by rw [List.length_set]; exact R.len, R.nd, fun b m => R.dis b (own_set_frz m), R.bas, R.trk, fun r2 b x e1 e2 => ?_⟩, ev, rp⟩
  by_cases z : r = r2
  · subst z
    rw [ea] at e1
    cases e1
    rw [List.getElem?_set_self hr] at e2
    cases e2
    exact rp
  · rw [List.getElem?_set_ne z] at e2
    exact RepO.stay ev (fun _ => rfl) (R.obs r2 b x e1 e2)
def gives (g : Va → Hh → Option (Pv × Hh)) : List Va → Hh → Option (List Pv × Hh)
  | [], h => some ([], h)
  | v :: vs, h => match g v h with
    | some (p, h1) => match gives g vs h1 with
      | some (ps, h2) => some (p :: ps, h2)
      | none => none
    | none => none
def giveFs (g : Va → Hh → Option (Pv × Hh)) : List (Str × Va) → Hh → Option (List (Str × Pv) × Hh)
  | [], h => some ([], h)
  | v :: vs, h => match g v.2 h with
    | some (p, h1) => match giveFs g vs h1 with
      | some (ps, h2) => some ((v.1, p) :: ps, h2)
      | none => none
    | none => none
def giveN : Nat → Va → Hh → Option (Pv × Hh)
  | _, .pv p, h => some (p, h)
  | 0, .ref _, _ => none
  | n + 1, .ref r, h => match h[r]? with
    | some (.frz p) => some (p, h)
    | some (.lst xs) => match gives (giveN n) xs h with
      | some (ps, h1) => some (.lst ps, h1.set r (.frz (.lst ps)))
      | none => none
    | some (.ins c fs) => match giveFs (giveN n) fs h with
      | some (ps, h1) => some (.ins c ps, h1.set r (.frz (.ins c ps)))
      | none => none
    | _ => none
abbrev give := giveN 4
/-- what a giving tells -/
def GiveOk (g : Va → Hh → Option (Pv × Hh)) : Prop := ∀ (G : Gx) (base α : List Addr) (h : Hh) (H : Hp) (v : Va) (u : V) (p : Pv) (h' : Hh), g v h = some (p, h') → Rel G base α h H → RepV G (base ++ own α h) α H v u →
  Rel G base α h' H ∧ Evo α h H α h' H ∧ h'.length = h.length ∧ RepP G (base ++ own α h') H p u
theorem gives_ok {g : Va → Hh → Option (Pv × Hh)} (hg : GiveOk g) {G : Gx} {base α : List Addr} {H : Hp} : ∀ {vs : List Va} {h : Hh} {us : List V} {ps : List Pv} {h' : Hh}, gives g vs h = some (ps, h') → Rel G base α h H → RepVs G (base ++ own α h) α H vs us →
    Rel G base α h' H ∧ Evo α h H α h' H ∧ h'.length = h.length ∧ RepPs G (base ++ own α h') H ps us
  | [], h, us, ps, h', e, R, q => by
    cases e
    have q : us = [] := q
    exact ⟨R, .refl, rfl, repPs_nil.mpr q⟩
  | v :: vs, h, us, ps, h', e, R, q => by
    obtain ⟨u, r, e0, q1, q2⟩ := q
    rw [gives] at e
    split at e
    · rename_i p h1 e1
      obtain ⟨R1, x1, l1, r1⟩ := hg G base α h H v u p h1 e1 R q1
      split at e
      · rename_i qs h2 e2
        cases e
        obtain ⟨R2, x2, l2, r2⟩ := gives_ok hg e2 R1 (x1.vas q2)
        exact ⟨R2, x1.trans x2, l2.trans l1, repPs_cons.mpr ⟨u, r, e0, x2.pv r1, r2⟩⟩
      · cases e
    · cases e
theorem giveFs_ok {g : Va → Hh → Option (Pv × Hh)} (hg : GiveOk g) {G : Gx} {base α : List Addr} {H : Hp} : ∀ {vs : List (Str × Va)} {h : Hh} {us : List (Str × V)} {ps : List (Str × Pv)} {h' : Hh}, giveFs g vs h = some (ps, h') → Rel G base α h H → RepFV G (base ++ own α h) α H vs us →
    Rel G base α h' H ∧ Evo α h H α h' H ∧ h'.length = h.length ∧ RepFs G (base ++ own α h') H ps us
  | [], h, us, ps, h', e, R, q => by
    cases e
    have q : us = [] := q
    exact ⟨R, .refl, rfl, by rw [RepFs]; exact q⟩
  | v :: vs, h, us, ps, h', e, R, q => by
    obtain ⟨u, r, e0, q1, q2⟩ := q
    rw [giveFs] at e
    split at e
    · rename_i p h1 e1
      obtain ⟨R1, x1, l1, r1⟩ := hg G base α h H v.2 u p h1 e1 R q1
      split at e
      · rename_i qs h2 e2
        cases e
        obtain ⟨R2, x2, l2, r2⟩ := giveFs_ok hg e2 R1 (x1.fvs q2)
        exact ⟨R2, x1.trans x2, l2.trans l1, by rw [RepFs]; exact ⟨u, r, e0, x2.pv r1, r2⟩⟩
      · cases e
    · cases e
theorem giveN_ok : ∀ n, GiveOk (giveN n)
  | n, G, base, α, h, H, .pv q, u, p, h', e, R, r => by
    have e : some (q, h) = some (p, h') := by cases n <;> exact e
    cases e
    exact ⟨R, .refl, rfl, r⟩
  | 0, G, base, α, h, H, .ref k, u, p, h', e, R, r => by cases e
  | n + 1, G, base, α, h, H, .ref k, u, p, h', e, R, r => by
    obtain ⟨a, ea, rfl⟩ := r
    rw [giveN] at e
    split at e
    · rename_i q eq
      cases e
      exact ⟨R, .refl, rfl, R.obs _ _ _ ea eq⟩
    · rename_i xs eq
      split at e
      · rename_i ps h1 e1
        cases e
        obtain ⟨vs, eH, q1⟩ := R.obs _ _ _ ea eq
        obtain ⟨R1, x1, l1, r1⟩ := gives_ok (giveN_ok n) e1 R q1
        have hr : k < h1.length := by rw [l1]; exact (List.getElem?_eq_some_iff.mp eq).1
        obtain ⟨R2, x2, r2⟩ := R1.frz (p := .lst ps) ea hr (fun av na f => repP_lst.mpr ⟨a, vs, rfl, ⟨.inl eH, na⟩, RepPs.mono (fun b o e n => ⟨e, f b o e n⟩) r1⟩) (R.dis a (mem_own.mpr ⟨k, _, ea, eq, rfl⟩))
        exact ⟨R2, x1.trans x2, by rw [List.length_set, l1], r2⟩
      · cases e
    · rename_i c fs eq
      split at e
      · rename_i ps h1 e1
        cases e
        obtain ⟨C, dx, gs, mC, eH, q1⟩ := R.obs _ _ _ ea eq
        obtain ⟨R1, x1, l1, r1⟩ := giveFs_ok (giveN_ok n) e1 R q1
        have hr : k < h1.length := by rw [l1]; exact (List.getElem?_eq_some_iff.mp eq).1
        obtain ⟨R2, x2, r2⟩ := R1.frz (p := .ins c ps) ea hr (fun av na f => repP_ins.mpr ⟨a, C, dx, gs, rfl, mC, eH, na, RepFs.mono (fun b o e n => ⟨e, f b o e n⟩) r1⟩) (R.dis a (mem_own.mpr ⟨k, _, ea, eq, rfl⟩))
        exact ⟨R2, x1.trans x2, by rw [List.length_set, l1], r2⟩
      · cases e
    · cases e
theorem give_ok : GiveOk give := giveN_ok 4
theorem give_pv (p : Pv) (h : Hh) : give (.pv p) h = some (p, h) := rfl
theorem gives_pv (ps : List Pv) (h : Hh) : gives give (ps.map .pv) h = some (ps, h) := by
  induction ps with
  | nil => rfl
  | cons p ps ih => show (match gives give (ps.map .pv) h with | some (ps, h2) => some (p :: ps, h2) | none => none) = _; rw [ih]

/-! ### displays -/
/-- pure values alone -/
def allPv : List Va → Option (List Pv)
  | [] => some []
  | .pv p :: r => (allPv r).map (p :: ·)
  | _ :: _ => none
theorem allPv_eq : ∀ {vs : List Va} {ps : List Pv}, allPv vs = some ps → vs = ps.map .pv
  | [], ps, e => by cases e; rfl
  | .pv p :: r, ps, e => by
    unfold allPv at e
    obtain ⟨qs, e1, e2⟩ := Option.map_eq_some_iff.mp e
    rw [← e2, allPv_eq e1]; rfl
  | .ref _ :: _, _, e => by cases e
theorem allPv_map (ps : List Pv) : allPv (ps.map .pv) = some ps := by
  induction ps with
  | nil => rfl
  | cons p ps ih => show (allPv (ps.map .pv)).map (p :: ·) = _; rw [ih]; rfl
def mkSeq (mk : List Pv → Pv) (vs : List Va) (h : Hh) : Res Va := match gives give vs h with
  | some (ps, h1) => if ps.length ≤ 16777216 then .ok (.pv (mk ps)) h1 else .stuck
  | none => .stuck
def dTup (da : Da) : Dn := fun s h => (da s h).bind fun vs h1 => mkSeq .tup vs h1
def dLst (da : Da) : Dn := fun s h => (da s h).bind fun vs h1 => mkSeq .lst vs h1
section
variable {X : Cx} {E : XK} {es : List Expr} {da : Da} {pos : Pos}
/-- behind a giving -/
theorem Pst.gave {G : Gx} {base α : List Addr} {h h' : Hh} {H : Hp} {β γ : Type} {rep : Rp β γ} {v : β} {u : γ} {Q : γ → Hp → Prop} {p : Addr} {o : HO} (P : Pst G E base α h H rep (.ok v h') Q) (ev : Evo α h H α h' H) (R : Rel G base α h' H) (np : H p = none)
    (q : Evo α h' H α h' (upd H p o) → p ∉ base ++ own α h' → rep (base ++ own α h') α (upd H p o) v u) : Q u (upd H p o) := (Pst.step ev P).new R np q
theorem seq_rd {mk : List Pv → Pv} {mo : List V → HO} (hm : ∀ (G : Gx) av H p ps us, (upd H p (mo us)) p = some (mo us) → p ∉ av → RepPs G av (upd H p (mo us)) ps us → RepP G av (upd H p (mo us)) (mk ps) (.ref p)) :
    ∀ σ H Q, tG (gx X) E (rV (gx X)) (fun s h => (da s h).bind fun vs h1 => mkSeq mk vs h1) σ H Q → tG (gx X) E (rVs (gx X)) da σ H fun xs H1 => xs.length ≤ sizeLine ∧ ∀ p, H1 p = none → Q (.ref p) (upd H1 p (mo xs)) := by
  intro σ H Q ⟨base, α, s, h, R, S, P⟩
  refine ⟨base, α, s, h, R, S, Pst.bind P fun vs h1 α1 us H1 x1 R1 q1 P1 => ?_⟩
  unfold mkSeq at P1
  split at P1
  · rename_i ps h2 e2
    obtain ⟨R2, x2, _, q2⟩ := gives_ok give_ok e2 R1 q1
    split at P1
    · rename_i hl
      refine ⟨by rw [← q2.length, sizeLine_eq]; exact hl, fun p np => P1.gave x2 R2 np fun ev na => ?_⟩
      exact hm _ _ _ _ _ _ upd_same na (ev.pvs (G := gx X) q2)
    · exact P1.elim
  · exact P1.elim
theorem se_tup {k : Nat} (ha : SA X E es da) : SE X E (.Tuple es k pos) (dTup da) :=
  PE.imp (pe_tup ha) (seq_rd (mo := HO.tup) fun G av H p ps us e na q => repP_tup.mpr ⟨p, us, rfl, .inl ⟨.inl e, na⟩, q⟩)
theorem se_lst (ha : SA X E es da) : SE X E (.List es pos) (dLst da) :=
  PE.imp (pe_lst ha) (seq_rd (mo := HO.lst) fun G av H p ps us e na q => repP_lst.mpr ⟨p, us, rfl, ⟨.inl e, na⟩, q⟩)
end
end CI
namespace CI
open PySem PySem.Spec PyProof.Rows L2

/-! ### + -/
section
variable {X : Cx} {E : XK}
/-- a list that stands in H, for + -/
def rCatR : R2 := fun x y H Q => ∃ l b xs zs, x = .ref l ∧ y = .ref b ∧ Rd H l (.lst xs) ∧ Rd H b (.lst zs) ∧ xs.length + zs.length ≤ sizeLine ∧ ∀ p, H p = none → Q (.ref p) (upd H p (.lst (xs ++ zs)))
theorem op_catR : OpR X (binaryOp .Add) rCatR := by
  intro pins s σ H x y v u Q I rx ry hq
  obtain ⟨l, b, xs, zs, ex, ey, hl, hb, hz, q⟩ := hq
  subst ex ey
  cases rx; cases ry
  obtain ⟨z1, i1, n1, r1, g1⟩ := hl.ok I.hok
  obtain ⟨z2, i2, n2, r2, g2⟩ := hb.ok I.hok
  have l1 := r1.length
  have l2 := r2.length
  have sz : i1.toArray.size + i2.toArray.size ≤ sizeLine := by simp only [List.size_toArray]; omega
  refine PySem.P.add_list g1 g2 ?_ (by simpa using sz)
  rw [show i1.toArray ++ i2.toArray = (i1 ++ i2).toArray by simp]
  have hlen : (xs ++ zs).length ≤ sizeLine := by rw [List.length_append]; exact hz
  exact ⟨.ref s.heap.objs.size, _, I.lnew (t' := s.toks) (r1.append r2) hlen, rfl, q _ I.fresh⟩
/-- () + t -/
def lenOk2 {β : Type} (a b : List β) : Bool := decide (a.length + b.length ≤ 16777216)
def oAdd : Op2 := fun x y h => match x, y with
  | .pv (.int i), .pv (.int j) => .ok (.pv (.int (i + j))) h
  | .pv (.str a), .pv (.str b) => if a.length + b.length ≤ 16777216 then .ok (.pv (.str (a ++ b))) h else .stuck
  | .pv (.lst a), .pv (.lst b) => if lenOk2 a b then .ok (.pv (.lst (a ++ b))) h else .stuck
  | .pv (.tup a), .pv (.tup b) => if lenOk2 a b && !a.isEmpty then .ok (.pv (.tup (a ++ b))) h else .stuck
  | _, _ => .stuck
def rAddV (K : PySem.W.Frag) : R2 := fun x y H Q => (∃ i j, x = .int i ∧ y = .int j ∧ Q (.int (i + j)) H) ∨ (∃ i j, x = .str i ∧ y = .str j ∧ i.length + j.length ≤ sizeLine ∧ Q (.str (i ++ j)) H) ∨ rCatR x y H Q ∨ rCatT K x y H Q
theorem op_addV : OpR X (binaryOp .Add) (rAddV X.K) := OpR.or op_add (OpR.or op_add_str (OpR.or op_catR op_catT))
theorem oAdd_ok : OpS X E oAdd (rAddV X.K) := by
  intro base α h H x y u w Q R rx ry P
  unfold oAdd at P
  split at P
  · exact .inl ⟨_, _, rv_int.mp rx, rv_int.mp ry, P.same R (rv_int.mpr rfl)⟩
  · split at P
    · rename_i hl
      exact .inr (.inl ⟨_, _, rv_str.mp rx, rv_str.mp ry, by rw [sizeLine_eq]; exact hl, P.same R (rv_str.mpr rfl)⟩)
    · exact P.elim
  · split at P
    · rename_i hl
      obtain ⟨l, xs, e1, t1, q1⟩ := rv_lst.mp rx
      obtain ⟨b, zs, e2, t2, q2⟩ := rv_lst.mp ry
      refine .inr (.inr (.inl ⟨l, b, xs, zs, e1, e2, t1.1, t2.1, ?_, fun p np => P.new R np fun ev na => rv_lst.mpr ⟨p, _, rfl, ⟨.inl upd_same, na⟩, ev.pvs (G := gx X) (q1.append q2)⟩⟩))
      have := of_decide_eq_true hl
      rw [← q1.length, ← q2.length, sizeLine_eq]; exact this
    · exact P.elim
  · split at P
    · rename_i a b hl
      rw [Bool.and_eq_true] at hl
      obtain ⟨l, xs, e1, t1, q1⟩ := rv_tup.mp rx
      obtain ⟨b', zs, e2, t2, q2⟩ := rv_tup.mp ry
      have n1 := q1.length
      have n2 := q2.length
      have hz := of_decide_eq_true hl.1
      refine .inr (.inr (.inr ⟨l, b', xs, zs, e1, e2, t1.sq, t2.sq, fun z => ?_, by rw [← n1, ← n2, sizeLine_eq]; exact hz, fun z => ?_, fun z p np => ?_⟩))
      · subst z
        cases a with
        | nil => simp at hl
        | cons _ _ => simp at n1
      · subst z
        have hb : b = [] := by cases b with
          | nil => rfl
          | cons _ _ => simp at n2
        subst hb
        rw [List.append_nil] at P
        exact P.same R (by rw [e1] at rx; exact rx)
      · exact P.new R np fun ev na => rv_tup.mpr ⟨p, _, rfl, .inl ⟨.inl upd_same, na⟩, ev.pvs (G := gx X) (q1.append q2)⟩
    · exact P.elim
  · exact P.elim
theorem se_add {a b : Expr} {da db : Dn} {pos : Pos} (ha : SE X E a da) (hb : SE X E b db) : SE X E (.BinOp a .Add b pos) (dBin oAdd da db) := se_bin op_addV oAdd_ok ha hb

/-! ### comparisons of ints, texts -/
def oLt : Op2 := onInts (fun _ _ => true) fun i j => .bl (decide (i < j))
def oLe : Op2 := onInts (fun _ _ => true) fun i j => .bl (decide (i ≤ j))
def oGt : Op2 := onInts (fun _ _ => true) fun i j => .bl (decide (j < i))
def oGe : Op2 := onInts (fun _ _ => true) fun i j => .bl (decide (j ≤ i))
theorem oLt_ok : OpS X E oLt (rI0 fun i j => .bl (decide (i < j))) := onInts_ok0 fun _ _ _ _ _ => rv_bl.mpr rfl
theorem oLe_ok : OpS X E oLe (rI0 fun i j => .bl (decide (i ≤ j))) := onInts_ok0 fun _ _ _ _ _ => rv_bl.mpr rfl
theorem oGt_ok : OpS X E oGt (rI0 fun i j => .bl (decide (j < i))) := onInts_ok0 fun _ _ _ _ _ => rv_bl.mpr rfl
theorem oGe_ok : OpS X E oGe (rI0 fun i j => .bl (decide (j ≤ i))) := onInts_ok0 fun _ _ _ _ _ => rv_bl.mpr rfl

/-! ### == by data -/
end
mutual
def toD : Pv → Option PyData
  | .non => some .none
  | .bl b => some (.bool b)
  | .int i => some (.int i)
  | .str x => some (.str x)
  | .tup xs => (toDs xs).map .tuple
  | .lst xs => (toDs xs).map .list
  | .scr ns => some (.list (ns.map .int))
  | _ => none
def toDs : List Pv → Option (List PyData)
  | [] => some []
  | x :: xs => match toD x, toDs xs with
    | some d, some ds => some (d :: ds)
    | _, _ => none
end
mutual
theorem toD_ok {G : Gx} {av : List Addr} {H : Hp} : ∀ {p : Pv} {v : V} {d : PyData}, RepP G av H p v → toD p = some d → Dp G.K H v d
  | .non, v, d, r, e => by cases e; rw [repP_non.mp r]; exact .non
  | .bl b, v, d, r, e => by cases e; rw [repP_bl.mp r]; exact .bl _
  | .int b, v, d, r, e => by cases e; rw [repP_int.mp r]; exact .int _
  | .str b, v, d, r, e => by cases e; rw [repP_str.mp r]; exact .str _
  | .tup xs, v, d, r, e => by
    obtain ⟨a, vs, e1, t, q⟩ := repP_tup.mp r
    obtain ⟨ds, e2, e3⟩ := Option.map_eq_some_iff.mp e
    rw [e1, ← e3]
    exact .tup t.sq (toDs_ok q e2)
  | .lst xs, v, d, r, e => by
    obtain ⟨a, vs, e1, t, q⟩ := repP_lst.mp r
    obtain ⟨ds, e2, e3⟩ := Option.map_eq_some_iff.mp e
    rw [e1, ← e3]
    exact .lst t.sq (toDs_ok q e2)
  | .scr ns, v, d, r, e => by
    obtain ⟨a, e1, t⟩ := repP_scr.mp r
    cases e
    rw [e1]
    refine .lst t.sq ?_
    clear t r e1
    induction ns with
    | nil => exact .nil
    | cons n ns ih => exact .cons (.int n) ih
  | .ins c fs, v, d, r, e => by cases e
  | .fn c, v, d, r, e => by cases e
  | .ty c, v, d, r, e => by cases e
theorem toDs_ok {G : Gx} {av : List Addr} {H : Hp} : ∀ {p : List Pv} {v : List V} {d : List PyData}, RepPs G av H p v → toDs p = some d → DpAll G.K H v d
  | [], v, d, r, e => by cases e; rw [repPs_nil.mp r]; exact .nil
  | x :: xs, v, d, r, e => by
    obtain ⟨y, q, e1, r1, r2⟩ := repPs_cons.mp r
    rw [toDs] at e
    split at e
    · rename_i d0 ds h1 h2
      cases e
      rw [e1]
      exact .cons (toD_ok r1 h1) (toDs_ok r2 h2)
    · cases e
end
/-- a value's data, where it is some -/
def datOf (h : Hh) (v : Va) : Option PyData := match v with
  | .pv p => toD p
  | .ref r => match h[r]? with
    | some (.lst xs) => match allPv xs with
      | some ps => (toDs ps).map .list
      | none => none
    | some (.frz p) => toD p
    | _ => none
theorem datOf_ok {G : Gx} {base α : List Addr} {h : Hh} {H : Hp} (R : Rel G base α h H) {v : Va} {u : V} {d : PyData} (r : RepV G (base ++ own α h) α H v u) (e : datOf h v = some d) : Dp G.K H u d := by
  unfold datOf at e
  cases v with
  | pv p => exact toD_ok (show RepP G (base ++ own α h) H p u from r) e
  | ref n =>
    obtain ⟨a, ea, rfl⟩ := r
    dsimp only at e
    split at e
    · rename_i q
      split at e
      · rename_i ps hp
        obtain ⟨ds, e2, e3⟩ := Option.map_eq_some_iff.mp e
        obtain ⟨vs, e1, q1⟩ := R.obs _ _ _ ea q
        rw [allPv_eq hp] at q1
        rw [← e3]
        exact .lst (SqL.of e1) (toDs_ok (repVs_pv.mp q1) e2)
      · cases e
    · rename_i p q
      exact toD_ok (R.obs _ _ _ ea q) e
    · cases e
/-- two texts -/
def twoStr : Va → Va → Option (Str × Str)
  | .pv (.str a), .pv (.str b) => some (a, b)
  | _, _ => none
def oEqN (neg : Bool) : Op2 := fun x y h => match twoStr x y with
  | some q => .ok (.pv (.bl (if neg then !decide (q.1 = q.2) else decide (q.1 = q.2)))) h
  | none => match datOf h x, datOf h y with
    | some d, some e => if SeqAt.shaped d && SeqAt.shaped e then .ok (.pv (.bl (if neg then !PyData.eqv d e else PyData.eqv d e))) h else .stuck
    | _, _ => .stuck
theorem twoStr_is {x y : Va} {q : Str × Str} (h : twoStr x y = some q) : x = .pv (.str q.1) ∧ y = .pv (.str q.2) := by
  unfold twoStr at h
  split at h
  · cases h; exact ⟨rfl, rfl⟩
  · cases h
section
variable {X : Cx} {E : XK}
theorem oEq_ok : OpS X E (oEqN false) (fun x y H Q => rEq x y H Q ∨ rEqD X.K x y H Q) := by
  intro base α h H x y u w Q R rx ry P
  unfold oEqN at P
  split at P
  · rename_i q hq
    obtain ⟨rfl, rfl⟩ := twoStr_is hq
    rw [rv_str.mp rx, rv_str.mp ry]
    refine .inl ⟨rfl, P.same R (rv_bl.mpr ?_)⟩
    by_cases e : q.1 = q.2 <;> simp [e]
  · split at P
    · rename_i d e hd he
      split at P
      · rename_i hs
        rw [Bool.and_eq_true] at hs
        exact .inr ⟨d, e, datOf_ok R rx hd, datOf_ok R ry he, hs.1, hs.2, P.same R (rv_bl.mpr rfl)⟩
      · exact P.elim
    · exact P.elim
theorem oNe_ok : OpS X E (oEqN true) (fun x y H Q => rNe x y H Q ∨ rNeD X.K x y H Q) := by
  intro base α h H x y u w Q R rx ry P
  unfold oEqN at P
  split at P
  · rename_i q hq
    obtain ⟨rfl, rfl⟩ := twoStr_is hq
    rw [rv_str.mp rx, rv_str.mp ry]
    refine .inl ⟨rfl, P.same R (rv_bl.mpr ?_)⟩
    by_cases e : q.1 = q.2 <;> simp [e]
  · split at P
    · rename_i d e hd he
      split at P
      · rename_i hs
        rw [Bool.and_eq_true] at hs
        exact .inr ⟨d, e, datOf_ok R rx hd, datOf_ok R ry he, hs.1, hs.2, P.same R (rv_bl.mpr rfl)⟩
      · exact P.elim
    · exact P.elim
end
end CI
namespace CI
open PySem PySem.Spec PyProof.Rows L2

/-! ### which comparison -/
def cmpOp : CmpOp → Option Op2
  | .Lt => some oLt
  | .LtE => some oLe
  | .Gt => some oGt
  | .GtE => some oGe
  | .Eq => some (oEqN false)
  | .NotEq => some (oEqN true)
  | _ => none
theorem cmp_rule {X : Cx} {E : XK} {op : CmpOp} {f : Op2} (hr : X.A.units + 64 < cLine) (h : cmpOp op = some f) : (∃ r, OpR X (compareOp op) r ∧ OpS X E f r) ∧ op ≠ .In ∧ op ≠ .NotIn := by
  cases op <;> first | (cases h; done) | skip
  all_goals (injection h with h; subst h)
  · exact ⟨⟨_, OpR.or op_eq (op_eqD hr), oEq_ok⟩, nofun, nofun⟩
  · exact ⟨⟨_, OpR.or op_ne (op_neD hr), oNe_ok⟩, nofun, nofun⟩
  · exact ⟨⟨_, op_lt, oLt_ok⟩, nofun, nofun⟩
  · exact ⟨⟨_, op_le, oLe_ok⟩, nofun, nofun⟩
  · exact ⟨⟨_, op_gt, oGt_ok⟩, nofun, nofun⟩
  · exact ⟨⟨_, op_ge, oGe_ok⟩, nofun, nofun⟩
section
variable {X : Cx} {E : XK} {a b c : Expr} {da db dc : Dn} {pos : Pos}
theorem se_cmpO {op : CmpOp} {f : Op2} (hr : X.A.units + 64 < cLine) (h : cmpOp op = some f) (ha : SE X E a da) (hb : SE X E b db) : SE X E (.Compare a [op] [b] pos) (dBin f da db) := by
  obtain ⟨⟨r, h1, h2⟩, n1, n2⟩ := cmp_rule (E := E) hr h
  exact se_cmp h1 h2 ha hb (nomark b n1 n2)
theorem st_cmpO {op : CmpOp} {f : Op2} (hr : X.A.units + 64 < cLine) (h : cmpOp op = some f) (ha : SE X E a da) (hb : SE X E b db) : STt X E (.Compare a [op] [b] pos) (tVB (dBin f da db)) := by
  obtain ⟨⟨r, h1, h2⟩, n1, n2⟩ := cmp_rule (E := E) hr h
  exact st_cmp h1 h2 ha hb (nomark b n1 n2)
/-- a op b op' c -/
def dChn (f g : Op2) (da db dc : Dn) : Dn := fun s h => (da s h).bind fun x h1 => (db s h1).bind fun y h2 => (asB (f x y h2)).bind fun k h3 => if k then (dc s h3).bind fun z h4 => g y z h4 else .ok (.pv (.bl false)) h3
theorem chn_rd {f g : Op2} {r r' : R2} (hf : OpS X E f r) (hg : OpS X E g r') : ∀ σ H Q, tG (gx X) E (rV (gx X)) (dChn f g da db dc) σ H Q → tChain r r' (tG (gx X) E (rV (gx X)) da) (tG (gx X) E (rV (gx X)) db) (tG (gx X) E (rV (gx X)) dc) σ H Q := by
  intro σ H Q ⟨base, α, s, h, R, S, P⟩
  refine ⟨base, α, s, h, R, S, Pst.bind P fun x h1 α1 u H1 x1 R1 q1 P1 => ?_⟩
  refine ⟨base, α1, s, h1, R1, x1.sl S, Pst.bind P1 fun y h2 α2 u2 H2 x2 R2 q2 P2 => ?_⟩
  unfold asB at P2
  refine hf base α2 h2 H2 x y u u2 _ R2 (x2.va q1) q2 (Pst.bind (rep := rV (gx X)) (rep2 := rV (gx X)) (k := fun v h => (match v with | .pv (.bl b) => Res.ok b h | _ => .stuck).bind fun k h3 => if k then (dc s h3).bind fun z h4 => g y z h4 else .ok (.pv (.bl false)) h3) (Q2 := Q) ?_ fun v h3 α3 u3 H3 x3 R3 q3 P3 => ?_)
  · cases hz : f x y h2 <;> rw [hz] at P2 <;> exact P2
  · split at P3
    · rename_i k
      refine ⟨k, rv_bl.mp q3, ?_⟩
      have P3 : Pst (gx X) E base α3 h3 H3 (rV (gx X)) (if k then (dc s h3).bind fun z h4 => g y z h4 else .ok (.pv (.bl false)) h3) Q := P3
      cases k with
      | true =>
        rw [if_pos rfl] at P3 ⊢
        refine ⟨base, α3, s, h3, R3, (x1.trans (x2.trans x3)).sl S, Pst.bind P3 fun z h4 α4 u4 H4 x4 R4 q4 P4 => ?_⟩
        exact hg base α4 h4 H4 y z u2 u4 Q R4 ((x3.trans x4).va q2) q4 P4
      | false =>
        rw [if_neg (by decide)] at P3 ⊢
        exact P3.same R3 (rv_bl.mpr rfl)
    · exact P3.elim
theorem last_no {op op' : CmpOp} (h1 : op ≠ .In) (h2 : op ≠ .NotIn) (h3 : op' ≠ .In) (h4 : op' ≠ .NotIn) : lastMarks [op, op'] [b, c] = false := by
  have k1 := nomark b h1 h2
  have k2 := nomark c h3 h4
  first
    | (simp only [lastMarks, k1, k2]; done)
    | (cases op <;> cases op' <;> first | exact absurd rfl h1 | exact absurd rfl h2 | exact absurd rfl h3 | exact absurd rfl h4 | (cases c <;> rfl))
theorem se_chn {op op' : CmpOp} {f g : Op2} (hr : X.A.units + 64 < cLine) (h : cmpOp op = some f) (h' : cmpOp op' = some g) (ha : SE X E a da) (hb : SE X E b db) (hc : SE X E c dc) : SE X E (.Compare a [op, op'] [b, c] pos) (dChn f g da db dc) := by
  obtain ⟨⟨r, h1, h2⟩, n1, n2⟩ := cmp_rule (E := E) hr h
  obtain ⟨⟨r', h1', h2'⟩, n1', n2'⟩ := cmp_rule (E := E) hr h'
  exact PE.imp (pe_chain h1 h1' ha hb hc (last_no n1 n2 n1' n2')) (chn_rd h2 h2')
theorem st_chn {op op' : CmpOp} {f g : Op2} (hr : X.A.units + 64 < cLine) (h : cmpOp op = some f) (h' : cmpOp op' = some g) (ha : SE X E a da) (hb : SE X E b db) (hc : SE X E c dc) : STt X E (.Compare a [op, op'] [b, c] pos) (tVB (dChn f g da db dc)) := by
  obtain ⟨⟨r, h1, h2⟩, n1, n2⟩ := cmp_rule (E := E) hr h
  obtain ⟨⟨r', h1', h2'⟩, n1', n2'⟩ := cmp_rule (E := E) hr h'
  refine PT.imp (pt_chain h1 h1' ha hb hc (last_no n1 n2 n1' n2')) fun σ H Q q => ?_
  exact chn_rd h2 h2' σ H _ (vb_rd σ H Q q)

/-! ### is None, is not None -/
def oIsN (neg : Bool) : Va → Hh → Res Va := fun x h => match x with
  | .pv .non => .ok (.pv (.bl (!neg))) h
  | .pv (.bl _) | .pv (.int _) | .pv (.str _) | .pv (.tup _) | .pv (.lst _) | .pv (.ins _ _) => .ok (.pv (.bl neg)) h
  | .ref _ => .ok (.pv (.bl neg)) h
  | _ => .stuck
def dIsN (neg : Bool) (d : Dn) : Dn := fun s h => (d s h).bind fun x h1 => oIsN neg x h1
theorem isN_v {G : Gx} {base α : List Addr} {h : Hh} {H : Hp} {x : Va} {u : V} {neg : Bool} {r : Res Va} (q : RepV G (base ++ own α h) α H x u) (e : oIsN neg x h = r) (hs : r ≠ .stuck) :
    r = .ok (.pv (.bl (if neg then !decide (u = .non) else decide (u = .non)))) h := by
  subst e
  unfold oIsN at hs ⊢
  split at hs
  · rw [rv_non.mp q]; cases neg <;> rfl
  · rw [rv_bl.mp q]; cases neg <;> rfl
  · rw [rv_int.mp q]; cases neg <;> rfl
  · rw [rv_str.mp q]; cases neg <;> rfl
  · obtain ⟨a, vs, e, _⟩ := rv_tup.mp q
    rw [e]; cases neg <;> rfl
  · obtain ⟨a, vs, e, _⟩ := rv_lst.mp q
    rw [e]; cases neg <;> rfl
  · obtain ⟨a, C, dx, gs, e, _⟩ := rv_ins.mp q
    rw [e]; cases neg <;> rfl
  · obtain ⟨a, _, e⟩ := q
    rw [e]; cases neg <;> rfl
  · exact absurd rfl hs
theorem se_isN {neg : Bool} {j p} (ha : SE X E a da) : SE X E (.Compare a [if neg then .IsNot else .Is] [.Constant .none j p] pos) (dIsN neg da) := by
  have core : ∀ σ H Q, tG (gx X) E (rV (gx X)) (dIsN neg da) σ H Q → tG (gx X) E (rV (gx X)) da σ H fun x H1 => Q (.bl (if neg then !decide (x = .non) else decide (x = .non))) H1 := fun σ H Q ⟨base, α, s, h, R, S, P⟩ =>
    ⟨base, α, s, h, R, S, Pst.bind P fun x h1 α1 u H1 x1 R1 q1 P1 => by
      cases hz : oIsN neg x h1 with
      | stuck => rw [hz] at P1; exact P1.elim
      | ok v h2 =>
        have := isN_v q1 hz (fun z => nomatch z)
        rw [hz, this] at P1
        exact P1.same R1 (rv_bl.mpr rfl)
      | exc c fs h2 =>
        have := isN_v q1 hz (fun z => nomatch z)
        cases this⟩
  cases neg with
  | false => exact PE.imp (pe_cmp (pc_isN ha) rfl) core
  | true => exact PE.imp (pe_cmp (pc_notN ha) rfl) core
theorem st_isN {neg : Bool} {j p} (ha : SE X E a da) : STt X E (.Compare a [if neg then .IsNot else .Is] [.Constant .none j p] pos) (tVB (dIsN neg da)) := by
  have core : ∀ σ H Q, tG (gx X) E (rV (gx X)) (dIsN neg da) σ H Q → tG (gx X) E (rV (gx X)) da σ H fun x H1 => Q (.bl (if neg then !decide (x = .non) else decide (x = .non))) H1 := fun σ H Q ⟨base, α, s, h, R, S, P⟩ =>
    ⟨base, α, s, h, R, S, Pst.bind P fun x h1 α1 u H1 x1 R1 q1 P1 => by
      cases hz : oIsN neg x h1 with
      | stuck => rw [hz] at P1; exact P1.elim
      | ok v h2 =>
        have := isN_v q1 hz (fun z => nomatch z)
        rw [hz, this] at P1
        exact P1.same R1 (rv_bl.mpr rfl)
      | exc c fs h2 =>
        have := isN_v q1 hz (fun z => nomatch z)
        cases this⟩
  cases neg with
  | false => exact PT.imp (pt_cmp (pc_isN ha) rfl) fun σ H Q q => core σ H _ (vb_rd σ H Q q)
  | true => exact PT.imp (pt_cmp (pc_notN ha) rfl) fun σ H Q q => core σ H _ (vb_rd σ H Q q)

/-! ### -a -/
def dNeg (d : Dn) : Dn := fun s h => (d s h).bind fun x h1 => match x with
  | .pv (.int i) => .ok (.pv (.int (-i))) h1
  | _ => .stuck
theorem se_neg (ha : SE X E a da) : SE X E (.UnaryOp .USub a pos) (dNeg da) := by
  refine PE.imp (pe_un un_neg ha) fun σ H Q ⟨base, α, s, h, R, S, P⟩ => ?_
  refine ⟨base, α, s, h, R, S, Pst.bind P fun x h1 α1 u H1 x1 R1 q1 P1 => ?_⟩
  split at P1
  · exact ⟨_, rv_int.mp q1, P1.same R1 (rv_int.mpr rfl)⟩
  · exact P1.elim

/-! ### tests -/
def truth (h : Hh) : Va → Option Bool
  | .pv .non => some false
  | .pv (.bl b) => some b
  | .pv (.int i) => some (i != 0)
  | .pv (.str x) => if x.length ≤ 16777216 then some ((x.length : Int) != 0) else none
  | v => (rdl h v).map fun xs => !xs.isEmpty
theorem truth_ok {base α : List Addr} {h : Hh} {H : Hp} (R : Rel (gx X) base α h H) {v : Va} {u : V} {k : Bool} (r : RepV (gx X) (base ++ own α h) α H v u) (e : truth h v = some k) : TruV X.K u H k := by
  have key : ∀ xs : List Va, rdl h v = some xs → k = !xs.isEmpty → TruV X.K u H k := fun xs e1 e2 => by
    obtain ⟨a, vs, rfl, t, q⟩ := rdl_ok R r e1
    have hk : k = !vs.isEmpty := by
      rw [e2]
      have := q.length
      cases xs <;> cases vs <;> first | rfl | simp at this
    rcases t with t | t
    · exact .inl ⟨vs, t, hk⟩
    · exact .inr (.inl ⟨vs, t, hk⟩)
  unfold truth at e
  split at e
  · cases e; rw [rv_non.mp r]; rfl
  · cases e; rw [rv_bl.mp r]; rfl
  · cases e; rw [rv_int.mp r]; rfl
  · split at e
    · rename_i x hx
      cases e; rw [rv_str.mp r]; exact ⟨by rw [sizeLine_eq]; exact hx, rfl⟩
    · cases e
  · obtain ⟨xs, e1, e2⟩ := Option.map_eq_some_iff.mp e
    exact key xs e1 e2.symm
def tVal (d : Dn) : Dt := fun s h => (d s h).bind fun v h1 => match truth h1 v with
  | some k => .ok k h1
  | none => .stuck
def plainT : Expr → Bool
  | .Call .. | .Name .. | .Attribute .. | .Subscript .. | .Constant .. => true
  | _ => false
theorem st_tru {e : Expr} {d : Dn} (hp : plainT e = true) (h : SE X E e d) : STt X E e (tVal d) := by
  have he : ∀ whole, isTrue e X.env whole = (do let v ← whole; standAt e.pos; holding [v] (truthy v)) := by
    cases e <;> first | (intro _; rfl) | cases hp
  refine PT.imp (pt_truth h he) fun σ H Q ⟨base, α, s, h, R, S, P⟩ => ?_
  refine ⟨base, α, s, h, R, S, Pst.bind P fun x h1 α1 u H1 x1 R1 q1 P1 => ?_⟩
  split at P1
  · rename_i k hk
    exact ⟨k, truth_ok R1 q1 hk, P1.same R1 rfl⟩
  · exact P1.elim
def tNot (t : Dt) : Dt := fun s h => (t s h).bind fun k h1 => .ok (!k) h1
theorem st_not {ta : Dt} (ha : STt X E a ta) : STt X E (.UnaryOp .Not a pos) (tNot ta) := by
  refine PT.imp (pt_not ha) fun σ H Q ⟨base, α, s, h, R, S, P⟩ => ?_
  refine ⟨base, α, s, h, R, S, Pst.bind P fun k h1 α1 u H1 x1 R1 q1 P1 => ?_⟩
  have q1 : k = u := q1
  subst q1
  exact P1.same R1 rfl
/-- and, or: as a chain of tests -/
def tAnd (a b : Dt) : Dt := fun s h => (a s h).bind fun k h1 => if k then b s h1 else .ok false h1
def tOr (a b : Dt) : Dt := fun s h => (a s h).bind fun k h1 => if k then .ok true h1 else b s h1
def SW (X : Cx) (E : XK) (e : Expr) (d : Dt) : Prop := PW X e (tG (gx X) E rB d)
theorem SW.st {e : Expr} {d : Dt} (h : SW X E e d) : STt X E e d := PW.pt h
theorem sw_and1 {ta : Dt} (ha : STt X E a ta) : SW X E (.BoolOp .And [a] pos) ta := pw_and1 ha
theorem sw_or1 {ta : Dt} (ha : STt X E a ta) : SW X E (.BoolOp .Or [a] pos) ta := pw_or1 ha
theorem sw_and {ta tb : Dt} {rest : List Expr} (ha : STt X E a ta) (hb : SW X E (.BoolOp .And (b :: rest) pos) tb) : SW X E (.BoolOp .And (a :: b :: rest) pos) (tAnd ta tb) := by
  refine PW.imp (pw_and ha hb) fun σ H Q ⟨base, α, s, h, R, S, P⟩ => ?_
  refine ⟨base, α, s, h, R, S, Pst.bind P fun k h1 α1 u H1 x1 R1 q1 P1 => ?_⟩
  have q1 : k = u := q1
  subst q1
  cases k with
  | true => exact ⟨base, α1, s, h1, R1, x1.sl S, P1⟩
  | false => exact P1.same R1 rfl
theorem sw_or {ta tb : Dt} {rest : List Expr} (ha : STt X E a ta) (hb : SW X E (.BoolOp .Or (b :: rest) pos) tb) : SW X E (.BoolOp .Or (a :: b :: rest) pos) (tOr ta tb) := by
  refine PW.imp (pw_or ha hb) fun σ H Q ⟨base, α, s, h, R, S, P⟩ => ?_
  refine ⟨base, α, s, h, R, S, Pst.bind P fun k h1 α1 u H1 x1 R1 q1 P1 => ?_⟩
  have q1 : k = u := q1
  subst q1
  cases k with
  | false => exact ⟨base, α1, s, h1, R1, x1.sl S, P1⟩
  | true => exact P1.same R1 rfl
/-! as values: truths -/
def dAnd (a b : Dn) : Dn := fun s h => (asB (a s h)).bind fun k h1 => if k then b s h1 else .ok (.pv (.bl false)) h1
def dOr (a b : Dn) : Dn := fun s h => (asB (a s h)).bind fun k h1 => if k then .ok (.pv (.bl true)) h1 else b s h1
def dNot (a : Dn) : Dn := fun s h => (asB (a s h)).bind fun k h1 => .ok (.pv (.bl (!k))) h1
theorem vb_k {d : Dn} {k : Bool → Hh → Res Va} {base α : List Addr} {s : Sl} {h : Hh} {H : Hp} {σ : L2.St} {Q : VK} {Q1 : V → Hp → Prop} (R : Rel (gx X) base α h H) (S : RepS (gx X) (base ++ own α h) α H s σ) (P : Pst (gx X) E base α h H (rV (gx X)) ((asB (d s h)).bind k) Q)
    (f : ∀ b h1 α1 H1, Evo α h H α1 h1 H1 → Rel (gx X) base α1 h1 H1 → Pst (gx X) E base α1 h1 H1 (rV (gx X)) (k b h1) Q → Q1 (.bl b) H1) : Pst (gx X) E base α h H (rV (gx X)) (d s h) Q1 := by
  have P2 : Pst (gx X) E base α h H (rV (gx X)) ((d s h).bind fun v h => (match v with | .pv (.bl b) => Res.ok b h | _ => .stuck).bind k) Q := by
    unfold asB at P
    cases hz : d s h <;> rw [hz] at P <;> exact P
  refine Pst.bind P2 fun v h1 α1 u H1 x1 R1 q1 P1 => ?_
  split at P1
  · rw [rv_bl.mp q1]
    exact f _ h1 α1 H1 x1 R1 P1
  · exact P1.elim
theorem se_one {op} (h : SE X E a da) : SE X E (.BoolOp op [a] pos) da := pe_one h
theorem se_and {rest : List Expr} (ha : SE X E a da) (hb : SE X E (.BoolOp .And (b :: rest) pos) db) : SE X E (.BoolOp .And (a :: b :: rest) pos) (dAnd da db) := by
  refine PE.imp (pe_and ha hb) fun σ H Q ⟨base, α, s, h, R, S, P⟩ => ?_
  refine ⟨base, α, s, h, R, S, vb_k R S P fun k h1 α1 H1 x1 R1 P1 => ⟨k, rfl, ?_⟩⟩
  cases k with
  | true => exact ⟨base, α1, s, h1, R1, x1.sl S, P1⟩
  | false => exact P1.same R1 (rv_bl.mpr rfl)
theorem se_or {rest : List Expr} (ha : SE X E a da) (hb : SE X E (.BoolOp .Or (b :: rest) pos) db) : SE X E (.BoolOp .Or (a :: b :: rest) pos) (dOr da db) := by
  refine PE.imp (pe_or ha hb) fun σ H Q ⟨base, α, s, h, R, S, P⟩ => ?_
  refine ⟨base, α, s, h, R, S, vb_k R S P fun k h1 α1 H1 x1 R1 P1 => ⟨k, rfl, ?_⟩⟩
  cases k with
  | false => exact ⟨base, α1, s, h1, R1, x1.sl S, P1⟩
  | true => exact P1.same R1 (rv_bl.mpr rfl)
theorem se_not (ha : SE X E a da) : SE X E (.UnaryOp .Not a pos) (dNot da) := by
  refine PE.imp (pe_not ha) fun σ H Q ⟨base, α, s, h, R, S, P⟩ => ?_
  exact ⟨base, α, s, h, R, S, vb_k R S P fun k h1 α1 H1 x1 R1 P1 => ⟨k, rfl, P1.same R1 (rv_bl.mpr rfl)⟩⟩
/-- a if t else b -/
def dIf (t : Dt) (a b : Dn) : Dn := fun s h => (t s h).bind fun k h1 => if k then a s h1 else b s h1
theorem se_ife {t : Dt} (ht : STt X E c t) (ha : SE X E a da) (hb : SE X E b db) : SE X E (.IfExp c a b pos) (dIf t da db) := by
  refine PE.imp (pe_ifExp ht ha hb) fun σ H Q ⟨base, α, s, h, R, S, P⟩ => ?_
  refine ⟨base, α, s, h, R, S, Pst.bind P fun k h1 α1 u H1 x1 R1 q1 P1 => ?_⟩
  have q1 : k = u := q1
  subst q1
  cases k with
  | true => exact ⟨base, α1, s, h1, R1, x1.sl S, P1⟩
  | false => exact ⟨base, α1, s, h1, R1, x1.sl S, P1⟩

/-! ### a[i] -/
def plainI : Expr → Bool
  | .Slice .. | .Starred .. => false
  | _ => true
def oIdxS : Op2 := fun x y h => match y with
  | .pv (.int i) => match x with
    | .pv (.str z) => match atI z.cps.toList i with
      | some c => if z.length ≤ 16777216 then .ok (.pv (.str ⟨#[c]⟩)) h else .stuck
      | none => .stuck
    | x => match rdl h x with
      | some xs => match atI xs i with
        | some v => .ok v h
        | none => .stuck
      | none => .stuck
  | _ => .stuck
theorem atI_rep {G : Gx} {av α : List Addr} {H : Hp} {xs : List Va} {vs : List V} {i : Int} {x : Va} (q : RepVs G av α H xs vs) (e : atI xs i = some x) : ∃ u, atI vs i = some u ∧ RepV G av α H x u := by
  unfold atI at e ⊢
  rw [← q.length]
  obtain ⟨j, e1, e2⟩ := Option.bind_eq_some_iff.mp e
  obtain ⟨u, e3, r⟩ := q.get e2
  exact ⟨u, by rw [e1]; exact e3, r⟩
theorem oIdxS_ok : OpS X E oIdxS (rIx X.K) := by
  intro base α h H x y u w Q R rx ry P
  unfold oIdxS at P
  split at P
  · rename_i i
    have hw := rv_int.mp ry
    split at P
    · rename_i z
      split at P
      · rename_i c hc
        split at P
        · rename_i hz
          exact .inr (.inr ⟨z, i, c, rv_str.mp rx, hw, by rw [sizeLine_eq]; exact hz, hc, P.same R (rv_str.mpr rfl)⟩)
        · exact P.elim
      · exact P.elim
    · split at P
      · rename_i xs hxs
        split at P
        · rename_i v hv
          obtain ⟨a, vs, e, t, q⟩ := rdl_ok R rx hxs
          obtain ⟨y', e2, r⟩ := atI_rep q hv
          rcases t with t | t
          · exact .inl ⟨a, vs, i, y', e, hw, t, e2, P.same R r⟩
          · exact .inr (.inl ⟨a, vs, i, y', e, hw, t, e2, P.same R r⟩)
        · exact P.elim
      · exact P.elim
  · exact P.elim
/-! of a dict -/
def keyOf : Va → Option Key
  | .pv (.int i) => some (.inl i)
  | .pv (.str x) => some (.inr x)
  | _ => none
theorem keyOf_ok {G : Gx} {av α : List Addr} {H : Hp} {y : Va} {k : Key} {u : V} (e : keyOf y = some k) (r : RepV G av α H y u) : u = kV k := by
  unfold keyOf at e
  split at e
  · cases e; exact rv_int.mp r
  · cases e; exact rv_str.mp r
  · cases e
def vaL (kvs : List (Key × Va)) (k : Key) : Option Va := (kvs.find? fun kv => decide (kv.1 = k)).map (·.2)
theorem fv_val {G : Gx} {av α : List Addr} {H : Hp} {k : Key} {x : Va} : ∀ {kvs : List (Key × Va)} {ks : List (Key × V)}, RepFV G av α H kvs ks → vaL kvs k = some x → ∃ v, valV ks k = some v ∧ RepV G av α H x v
  | [], _, _, e => by cases e
  | p :: r, _, ⟨v, w, e0, q1, q2⟩, e => by
    subst e0
    unfold vaL at e
    by_cases z : p.1 = k
    · rw [List.find?_cons_of_pos (by simpa using z)] at e
      cases e
      exact ⟨v, valV_pos (p := (p.1, v)) z, q1⟩
    · rw [List.find?_cons_of_neg (by simpa using z)] at e
      obtain ⟨v', e1, q⟩ := fv_val q2 e
      exact ⟨v', (valV_neg (p := (p.1, v)) z).trans e1, q⟩
def rIxK : R2 := fun x y H Q => ∃ a kvs k v, x = .ref a ∧ Rd H a (.dK kvs) ∧ y = kV k ∧ valV kvs k = some v ∧ Q v H
theorem ix_dk {X : Cx} : IxR X rIxK := by
  intro value slice pins s σ H x y v u Q I rx ry h hs
  obtain ⟨a, kvs, k, r, rfl, e, rfl, l, q⟩ := h
  obtain rfl : v = Value.ref a := rx
  obtain ⟨z, hd, vs, rel, dd⟩ := dk_rd I.hok e
  obtain ⟨w', hw, rw'⟩ := RelO.some_of (v := r) (o := valueAt vs k) (by rw [← l]; exact rel.val k)
  exact PyProof.Rows.tail_any dd.typeIs PySem.F.slot_dict_getitem.lookup (wpAny_getItem_of (kV_is ry) dd.mapOf hw ⟨r, H, I.tok _, rw', q⟩) hs
def dctOf (h : Hh) : Va → Option (List (Key × Va))
  | .ref r => match h[r]? with
    | some (.dct kvs) => some kvs
    | _ => none
  | _ => none
theorem dctOf_ok {G : Gx} {base α : List Addr} {h : Hh} {H : Hp} {x : Va} {u : V} {kvs : List (Key × Va)} (e : dctOf h x = some kvs) (R : Rel G base α h H) (r : RepV G (base ++ own α h) α H x u) : ∃ a ks, u = .ref a ∧ H a = some (.dK ks) ∧ RepFV G (base ++ own α h) α H kvs ks := by
  unfold dctOf at e
  split at e
  · rename_i n
    obtain ⟨a, ea, rfl⟩ := r
    split at e
    · rename_i q
      cases e
      obtain ⟨ks, e1, q1⟩ := R.obs _ _ _ ea q
      exact ⟨a, ks, rfl, e1, q1⟩
    · cases e
  · cases e
def oIdx : Op2 := fun x y h => match dctOf h x with
  | some kvs => match (keyOf y).bind (vaL kvs) with
    | some v => .ok v h
    | none => .stuck
  | none => oIdxS x y h
theorem oIdx_ok : OpS X E oIdx (fun x y H Q => rIx X.K x y H Q ∨ rIxK x y H Q) := by
  intro base α h H x y u w Q R rx ry P
  unfold oIdx at P
  split at P
  · rename_i kvs e
    obtain ⟨a, ks, rfl, e1, q1⟩ := dctOf_ok e R rx
    split at P
    · rename_i v e2
      obtain ⟨k, e3, e4⟩ := Option.bind_eq_some_iff.mp e2
      obtain ⟨v', e5, q2⟩ := fv_val q1 e4
      exact .inr ⟨a, ks, k, v', rfl, .inl e1, keyOf_ok e3 ry, e5, P.same R q2⟩
    · exact P.elim
  · exact .inl (oIdxS_ok base α h H x y u w Q R rx ry P)
theorem plain_ix (h : plainI b = true) : PlainIx b := by
  intro o i
  cases b <;> first | rfl | cases h
theorem se_idx (hp : plainI b = true) (ha : SE X E a da) (hb : SE X E b db) : SE X E (.Subscript a b pos) (dBin oIdx da db) := PE.imp (pe_ix (ix_seq.or ix_dk) ha hb (plain_ix hp)) (bin_rd oIdx_ok)
end
end CI
namespace CI
open PySem PySem.Spec PyProof.Rows L2

/-- how a statement ends -/
inductive SR where
  | nx (s : Sl) (h : Hh) | rt (v : Va) (h : Hh) | bk (s : Sl) (h : Hh) | ct (s : Sl) (h : Hh)
  | exc (c : Str) (fs : List (Str × Pv)) (h : Hh) | stuck
abbrev Sn := Sl → Hh → SR
def PstS (G : Gx) (E : XK) (base α : List Addr) (h : Hh) (H : Hp) (r : SR) (D : Ends) : Prop :=
  match r with
  | .nx s' h' => ∀ α' σ' H', Evo α h H α' h' H' → Rel G base α' h' H' → RepS G (base ++ own α' h') α' H' s' σ' → D.nx σ' H'
  | .bk s' h' => ∀ α' σ' H', Evo α h H α' h' H' → Rel G base α' h' H' → RepS G (base ++ own α' h') α' H' s' σ' → D.bk σ' H'
  | .ct s' h' => ∀ α' σ' H', Evo α h H α' h' H' → Rel G base α' h' H' → RepS G (base ++ own α' h') α' H' s' σ' → D.ct σ' H'
  | .rt v h' => ∀ α' u H', Evo α h H α' h' H' → Rel G base α' h' H' → RepV G (base ++ own α' h') α' H' v u → D.rt u H'
  | .exc c fs h' => ∀ α' cls d H', Evo α h H α' h' H' → Rel G base α' h' H' → RepX G (base ++ own α' h') H' c fs cls d → E cls d H'
  | .stuck => False
section
variable {G : Gx} {E : XK} {base α α1 : List Addr} {h h1 : Hh} {H H1 : Hp} {D : Ends} {β γ : Type} {rep : Rp β γ}
theorem PstS.step (x : Evo α h H α1 h1 H1) {r : SR} (p : PstS G E base α h H r D) : PstS G E base α1 h1 H1 r D := by
  cases r with
  | nx s' h' => exact fun α' u H' y => p α' u H' (x.trans y)
  | bk s' h' => exact fun α' u H' y => p α' u H' (x.trans y)
  | ct s' h' => exact fun α' u H' y => p α' u H' (x.trans y)
  | rt s' h' => exact fun α' u H' y => p α' u H' (x.trans y)
  | exc c fs h' => exact fun α' cls d H' y => p α' cls d H' (x.trans y)
  | stuck => exact p
/-- an expression, then a statement's end -/
def sBind {β : Type} (r : Res β) (k : β → Hh → SR) : SR := match r with
  | .ok v h => k v h
  | .exc c fs h => .exc c fs h
  | .stuck => .stuck
theorem PstS.bind {r : Res β} {k : β → Hh → SR} {Q1 : γ → Hp → Prop} (p : PstS G E base α h H (sBind r k) D)
    (f : ∀ v h1 α1 u H1, Evo α h H α1 h1 H1 → Rel G base α1 h1 H1 → rep (base ++ own α1 h1) α1 H1 v u → PstS G E base α1 h1 H1 (k v h1) D → Q1 u H1) : Pst G E base α h H rep r Q1 := by
  cases r with
  | ok v h' => exact fun α' u H' x r q => f v h' α' u H' x r q (PstS.step x p)
  | exc c fs h' => exact p
  | stuck => exact p
/-- one statement, then the next -/
def sThen (r : SR) (k : Sl → Hh → SR) : SR := match r with
  | .nx s h => k s h
  | r => r
theorem PstS.seq {r : SR} {k : Sl → Hh → SR} {N : L2.St → Hp → Prop} (p : PstS G E base α h H (sThen r k) D)
    (f : ∀ s h1 α1 σ H1, Evo α h H α1 h1 H1 → Rel G base α1 h1 H1 → RepS G (base ++ own α1 h1) α1 H1 s σ → PstS G E base α1 h1 H1 (k s h1) D → N σ H1) : PstS G E base α h H r { D with nx := N } := by
  cases r with
  | nx s' h' => exact fun α' u H' x r q => f s' h' α' u H' x r q (PstS.step x p)
  | bk s' h' => exact p
  | ct s' h' => exact p
  | rt s' h' => exact p
  | exc c fs h' => exact p
  | stuck => exact p
theorem PstS.sameN {s : Sl} {σ : L2.St} (p : PstS G E base α h H (.nx s h) D) (R : Rel G base α h H) (S : RepS G (base ++ own α h) α H s σ) : D.nx σ H := p α σ H .refl R S
end
/-- the reading of a statement by d -/
def tN (G : Gx) (E : XK) (d : Sn) : TS := fun D σ H => ∃ base α s h, Rel G base α h H ∧ RepS G (base ++ own α h) α H s σ ∧ PstS G E base α h H (d s h) D
def SS (X : Cx) (E : XK) (st : Stmt) (d : Sn) : Prop := PS X st (tN (gx X) E d)
def SB (X : Cx) (E : XK) (st : List Stmt) (d : Sn) : Prop := PSs X st (tN (gx X) E d)

def sNil : Sn := fun s h => .nx s h
def sSeq (a b : Sn) : Sn := fun s h => sThen (a s h) b
def sExpr (d : Dn) : Sn := fun s h => sBind (d s h) fun _ h1 => .nx s h1
def sRet (d : Dn) : Sn := fun s h => sBind (d s h) fun v h1 => .rt v h1
def sRetN : Sn := fun _ h => .rt (.pv .non) h
def sIf (t : Dt) (a b : Sn) : Sn := fun s h => sBind (t s h) fun k h1 => if k then a s h1 else b s h1
def sBrk : Sn := fun s h => .bk s h
def sCnt : Sn := fun s h => .ct s h
section
variable {X : Cx} {E : XK} {st : Stmt} {rest : List Stmt} {a b : Sn} {e : Expr} {d : Dn} {pos : Pos}
theorem sb_nil : SB X E [] sNil := PSs.imp pss_nil fun D σ H ⟨base, α, s, h, R, S, P⟩ => P.sameN R S
theorem sb_cons (ha : SS X E st a) (hb : SB X E rest b) : SB X E (st :: rest) (sSeq a b) := by
  refine PSs.imp (pss_cons ha hb) fun D σ H ⟨base, α, s, h, R, S, P⟩ => ?_
  exact ⟨base, α, s, h, R, S, PstS.seq P fun s1 h1 α1 σ1 H1 x1 R1 S1 P1 => ⟨base, α1, s1, h1, R1, S1, P1⟩⟩
theorem sb_one (ha : SS X E st a) : SB X E [st] a := pss_one ha
theorem ss_pass : SS X E (.Pass pos) sNil := PS.imp ps_pass fun D σ H ⟨base, α, s, h, R, S, P⟩ => P.sameN R S
theorem ss_brk : SS X E (.Break pos) sBrk := PS.imp ps_break fun D σ H ⟨base, α, s, h, R, S, P⟩ => P α σ H .refl R S
theorem ss_cnt : SS X E (.Continue pos) sCnt := PS.imp ps_continue fun D σ H ⟨base, α, s, h, R, S, P⟩ => P α σ H .refl R S
theorem ss_doc {x j p} : SS X E (.Expr (.Constant (.str x) j p) pos) sNil := PS.imp ps_doc fun D σ H ⟨base, α, s, h, R, S, P⟩ => P.sameN R S
theorem ss_expr (he : SE X E e d) (hs : swapsWith e none pos.line X.env = pure false) : SS X E (.Expr e pos) (sExpr d) := by
  refine PS.imp (ps_expr he hs) fun D σ H ⟨base, α, s, h, R, S, P⟩ => ?_
  exact ⟨base, α, s, h, R, S, PstS.bind P fun v h1 α1 u H1 x1 R1 q1 P1 => P1.sameN R1 (x1.sl S)⟩
theorem ss_ret (he : SE X E e d) : SS X E (.Return (some e) pos) (sRet d) := by
  refine PS.imp (ps_ret he) fun D σ H ⟨base, α, s, h, R, S, P⟩ => ?_
  exact ⟨base, α, s, h, R, S, PstS.bind P fun v h1 α1 u H1 x1 R1 q1 P1 => P1 α1 u H1 .refl R1 q1⟩
theorem ss_retN : SS X E (.Return none pos) sRetN := PS.imp ps_retN fun D σ H ⟨base, α, s, h, R, S, P⟩ => P α V.non H .refl R (rv_non.mpr rfl)
theorem ss_if {t : Dt} {x y : List Stmt} {c : Expr} (ht : STt X E c t) (ha : SB X E x a) (hb : SB X E y b) : SS X E (.If c x y pos) (sIf t a b) := by
  refine PS.imp (ps_if ht ha hb) fun D σ H ⟨base, α, s, h, R, S, P⟩ => ?_
  refine ⟨base, α, s, h, R, S, PstS.bind P fun k h1 α1 u H1 x1 R1 q1 P1 => ?_⟩
  have q1 : k = u := q1
  subst q1
  cases k with
  | true => exact ⟨base, α1, s, h1, R1, x1.sl S, P1⟩
  | false => exact ⟨base, α1, s, h1, R1, x1.sl S, P1⟩
end

/-! ### targets -/
/-- a target: the slots that it may set, and how; the heap stays -/
structure Tg where
  slots : List Nat
  put : Va → Sl → Hh → Option Sl
def SameOff (vs : List Nat) (σ σ' : L2.St) : Prop := σ'.length = σ.length ∧ ∀ j, j ∉ vs → σ'[j]? = σ[j]?
def rdG (G : Gx) (t : Tg) : TG := fun u σ H Q => ∃ base α s h v, Rel G base α h H ∧ RepS G (base ++ own α h) α H s σ ∧ RepV G (base ++ own α h) α H v u ∧
  match t.put v s h with
  | some s' => ∀ σ', SameOff t.slots σ σ' → RepS G (base ++ own α h) α H s' σ' → Q σ' H
  | none => False
def STg (X : Cx) (tg : Expr) (t : Tg) : Prop := PG X tg (rdG (gx X) t)
def gNm (i : Nat) : Tg := ⟨[i], fun v s _ => some (s.set i (some v))⟩
theorem same_set {i : Nat} {σ : L2.St} {u : V} : SameOff [i] σ (σ.set i (some u)) := ⟨by rw [List.length_set], fun j hj => by rw [List.getElem?_set_ne]; intro z; exact hj (by rw [z]; exact List.mem_singleton.mpr rfl)⟩
theorem tg_name {X : Cx} {i : Nat} {x : Str} {pos : Pos} (hN : X.N.Nodup) (hi : X.N[i]? = some x) (hx : Loc X.env.scope x) (hf : X.fn x = true ∨ X.env.scope.names.lookup x = some .local) : STg X (.Name x pos) (gNm i) := by
  refine PG.imp (pg_name hN hi hx hf) fun u σ H Q ⟨base, α, s, h, v, R, S, q, P⟩ => ?_
  exact P _ same_set (S.set i q)
/-- several, one after another -/
structure Tgs where
  slots : List Nat
  put : List Va → Sl → Hh → Option Sl
def STgs (X : Cx) (tg : List Expr) (t : Tgs) : Prop := PGs X tg fun u σ H Q => ∃ base α s h v, Rel (gx X) base α h H ∧ RepS (gx X) (base ++ own α h) α H s σ ∧ RepVs (gx X) (base ++ own α h) α H v u ∧
  match t.put v s h with
  | some s' => ∀ σ', SameOff t.slots σ σ' → RepS (gx X) (base ++ own α h) α H s' σ' → Q σ' H
  | none => False
def gsNil : Tgs := ⟨[], fun v s _ => match v with
  | [] => some s
  | _ => none⟩
def gsCons (t : Tg) (r : Tgs) : Tgs := ⟨t.slots ++ r.slots, fun v s h => match v with
  | x :: xs => match t.put x s h with
    | some s1 => r.put xs s1 h
    | none => none
  | [] => none⟩
theorem SameOff.trans {a b : List Nat} {σ σ1 σ2 : L2.St} (h1 : SameOff a σ σ1) (h2 : SameOff b σ1 σ2) : SameOff (a ++ b) σ σ2 :=
  ⟨h2.1.trans h1.1, fun j hj => by rw [List.mem_append, not_or] at hj; exact (h2.2 j hj.2).trans (h1.2 j hj.1)⟩
section
variable {X : Cx}
theorem tgs_nil : STgs X [] gsNil := by
  refine PGs.imp pgs_nil fun u σ H Q ⟨base, α, s, h, v, R, S, q, P⟩ => ?_
  unfold gsNil at P
  cases v with
  | nil =>
    have q : u = [] := q
    exact ⟨q, P σ ⟨rfl, fun _ _ => rfl⟩ S⟩
  | cons x xs => exact P.elim
theorem assign_cons {e : Expr} {es : List Expr} {env : Env} (hn : notStar e = true) : (assignEach (e :: es) env).map (·.2) = assign e env :: (assignEach es env).map (·.2) := by
  cases e <;> first | rfl | cases hn
theorem tgs_cons {e : Expr} {es : List Expr} {t : Tg} {r : Tgs} (hn : notStar e = true) (ht : STg X e t) (hr : STgs X es r) : STgs X (e :: es) (gsCons t r) := by
  refine PGs.imp (pgs_cons ht hr (assign_cons hn)) fun u σ H Q ⟨base, α, s, h, v, R, S, q, P⟩ => ?_
  unfold gsCons at P
  cases v with
  | nil => exact P.elim
  | cons x xs =>
    obtain ⟨y, ys, e1, q1, q2⟩ := q
    refine ⟨y, ys, e1, base, α, s, h, x, R, S, q1, ?_⟩
    dsimp only at P
    cases hz : t.put x s h with
    | none => rw [hz] at P; exact P.elim
    | some s1 =>
      rw [hz] at P
      intro σ1 o1 S1
      refine ⟨base, α, s1, h, xs, R, S1, q2, ?_⟩
      cases hy : r.put xs s1 h with
      | none => dsimp only at P; rw [hy] at P; exact P.elim
      | some s2 =>
        dsimp only at P
        rw [hy] at P
        exact fun σ2 o2 S2 => P σ2 (o1.trans o2) S2
/-- the items of a tuple that is taken apart -/
def tupOf : Va → Option (List Va)
  | .pv (.tup ps) => some (ps.map .pv)
  | _ => none
def gTu (n : Nat) (r : Tgs) : Tg := ⟨r.slots, fun v s h => match tupOf v with
  | some xs => if xs.length = n then r.put xs s h else none
  | none => none⟩
theorem each_len {env : Env} : ∀ {es : List Expr}, es.all notStar = true → (assignEach es env).length = es.length ∧ (assignEach es env).findIdx? (·.1) = none
  | [], _ => ⟨rfl, rfl⟩
  | e :: es, h => by
    rw [List.all_cons, Bool.and_eq_true] at h
    obtain ⟨h1, h2⟩ := each_len (env := env) h.2
    have e0 : assignEach (e :: es) env = (false, assign e env) :: assignEach es env := by
      have hn := h.1
      cases e <;> first | rfl | cases hn
    rw [e0]
    refine ⟨by rw [List.length_cons, List.length_cons, h1], ?_⟩
    rw [List.findIdx?_cons]
    simp [h2]
theorem tg_tup {es : List Expr} {k : Nat} {r : Tgs} {pos : Pos} (hc : X.calm = true) (hs : es.all notStar = true) (hr : STgs X es r) : STg X (.Tuple es k pos) (gTu es.length r) := by
  have hl := each_len (env := X.env) hs
  refine PG.imp (pg_tup hc hr hl.1 hl.2) fun u σ H Q ⟨base, α, s, h, v, R, S, q, P⟩ => ?_
  unfold gTu at P
  dsimp only at P
  cases v with
  | ref n => exact P.elim
  | pv p =>
    cases p <;> first | exact P.elim | skip
    rename_i ps
    obtain ⟨a, vs, e1, t, q2⟩ := rv_tup.mp q
    have P : match (if (ps.map Va.pv).length = es.length then r.put (ps.map .pv) s h else none) with
      | some s' => ∀ σ', SameOff r.slots σ σ' → RepS (gx X) (base ++ own α h) α H s' σ' → Q σ' H
      | none => False := P
    by_cases hq : (ps.map Va.pv).length = es.length
    · rw [if_pos hq] at P
      refine ⟨a, vs, e1, t.sq, ?_, base, α, s, h, ps.map .pv, R, S, repVs_pv.mpr q2, P⟩
      rw [← hq, List.length_map, q2.length]
    · rw [if_neg hq] at P; exact P.elim
/-- target = value -/
def sAsg (t : Tg) (d : Dn) : Sn := fun s h => sBind (d s h) fun v h1 => match t.put v s h1 with
  | some s' => .nx s' h1
  | none => .stuck
theorem asg_rd {E : XK} {t : Tg} {d : Dn} {g : TG} (hg : ∀ u σ H Q, (∃ base α s h v, Rel (gx X) base α h H ∧ RepS (gx X) (base ++ own α h) α H s σ ∧ RepV (gx X) (base ++ own α h) α H v u ∧
      match t.put v s h with
      | some s' => ∀ σ', SameOff t.slots σ σ' → RepS (gx X) (base ++ own α h) α H s' σ' → Q σ' H
      | none => False) → g u σ H Q) : ∀ D σ H, tN (gx X) E (sAsg t d) D σ H → tAsg (tG (gx X) E (rV (gx X)) d) g D σ H := by
  intro D σ H ⟨base, α, s, h, R, S, P⟩
  refine ⟨base, α, s, h, R, S, PstS.bind P fun v h1 α1 u H1 x1 R1 q1 P1 => hg _ _ _ _ ⟨base, α1, s, h1, v, R1, x1.sl S, q1, ?_⟩⟩
  split at P1
  · rename_i s' hs'
    exact fun σ' _ S' => P1.sameN R1 S'
  · exact P1.elim
theorem ss_asg {E : XK} {tg e : Expr} {t : Tg} {d : Dn} {pos : Pos} (ht : STg X tg t) (he : SE X E e d) (hs : swapsWithSole [tg] e pos.line X.env = pure false) (hw : swappedStores [tg] e X.env = pure none) (hn : notStar tg = true) :
    SS X E (.Assign [tg] e pos) (sAsg t d) := PS.imp (ps_asg he ht hs hw (assign_cons hn)) (asg_rd fun _ _ _ _ q => q)
theorem ss_set {E : XK} {i : Nat} {x : Str} {e : Expr} {d : Dn} {pos pos' : Pos} (hN : X.N.Nodup) (hi : X.N[i]? = some x) (hx : Loc X.env.scope x) (hf : X.fn x = true ∨ X.env.scope.names.lookup x = some .local) (he : SE X E e d)
    (hs : swapsWith e (some (.Name x pos')) pos.line X.env = pure false) : SS X E (.Assign [.Name x pos'] e pos) (sAsg (gNm i) d) :=
  PS.imp (ps_set hN hi hx he hs hf) (asg_rd fun u σ H Q ⟨base, α, s, h, v, R, S, q, P⟩ => P _ same_set (S.set i q))
end
end CI
namespace CI
open PySem PySem.Spec PyProof.Rows L2

/-! ### a, b = x, y with plain local names -/
def isStar : Expr → Bool
  | .Starred .. => true
  | _ => false
def locName (sc : Scope) (line : Nat) : Expr → Option Str
  | .Name id pos => if sc.names.lookup id == some .local && pos.line == line then some id else none
  | _ => none
/-- how such a statement stores: some names: from the right, without a tuple -/
def swF (sc : Scope) (ts vs : List Expr) : Option (Option (List Str)) :=
  if !(ts.length == 2 || ts.length == 3) || vs.length != ts.length || false then some none
  else if vs.any isStar then some none
  else if (ts.filterMap (locName sc ((ts.head?.map (·.pos.line)).getD 0))).length != ts.length || (ts.filterMap (locName sc ((ts.head?.map (·.pos.line)).getD 0))).eraseDups.length != (ts.filterMap (locName sc ((ts.head?.map (·.pos.line)).getD 0))).length then some none
  else if vs.all (foldedForSure 8) then some none
  else if vs.all (constantsAlone 8) then none
  else some (some (ts.filterMap (locName sc ((ts.head?.map (·.pos.line)).getD 0))))
theorem swF_ok {env : Env} {ts vs : List Expr} {k k2 : Nat} {p p2 : Pos} {r : Option (List Str)} (hk : env.scope.kind = .function) (h : swF env.scope ts vs = some r) : swappedStores [.Tuple ts k p] (.Tuple vs k2 p2) env = pure r := by
  have hb : (env.blockKind != .function) = false := by unfold Env.blockKind; rw [hk]; rfl
  have e3 : (fun x => match x with | Expr.Name id pos => (if (env.kindOf id == some NameKind.local && pos.line == (ts.head?.map (·.pos.line)).getD 0) = true then some id else none) | _ => none) = locName env.scope ((ts.head?.map (·.pos.line)).getD 0) := by
    funext x; cases x <;> rfl
  have e4 : (fun x => match x with | Expr.Starred _ _ => true | _ => false) = isStar := by
    funext x; cases x <;> rfl
  unfold swF at h
  simp only [swappedStores]
  show (if _ then _ else _) = _
  rw [hb]
  split at h
  · rename_i hc
    cases h
    exact if_pos hc
  · rename_i hc
    refine (if_neg hc).trans ?_
    split at h
    · rename_i hc2
      cases h
      exact if_pos (by rw [← e4] at hc2; exact hc2)
    · rename_i hc2
      refine (if_neg (by rw [← e4] at hc2; exact hc2)).trans ?_
      rw [← e3] at h
      split at h
      · rename_i hc3
        cases h
        exact if_pos hc3
      · rename_i hc3
        refine (if_neg hc3).trans ?_
        split at h
        · rename_i hc4
          cases h
          exact if_pos hc4
        · rename_i hc4
          refine (if_neg hc4).trans ?_
          split at h
          · cases h
          · rename_i hc5
            cases h
            exact if_neg hc5
end CI
namespace CI
open PySem PySem.Spec PyProof.Rows L2

def isComp : Expr → Bool
  | .ListComp .. | .SetComp .. | .DictComp .. => true
  | _ => false
theorem noSwap {e : Expr} {t : Option Expr} {l : Nat} {env : Env} (h : isComp e = false) : swapsWith e t l env = pure false := by
  cases e <;> first | rfl | cases h
theorem noSwapSole {e : Expr} {ts : List Expr} {l : Nat} {env : Env} (h : isComp e = false) : swapsWithSole ts e l env = pure false := by
  unfold swapsWithSole
  split
  · exact noSwap h
  · rfl

/-- slots set, from the left -/
def setAll : List (Nat × Va) → Sl → Sl
  | [], s => s
  | (i, v) :: r, s => setAll r (s.set i (some v))
section
variable {X : Cx} {E : XK}
theorem stores_ok {pins : List (Addr × Obj)} {H : Hp} {α av : List Addr} {E0 : Value → Shared → Prop} (hN : X.N.Nodup) : ∀ (l : List (Str × Nat)) (xs : List Va) (vs : List V) (us : List Value) (s : Shared) (σ : L2.St) (sl : Sl) (Q : Unit → Shared → Prop), Inv X pins σ H s →
    (∀ p ∈ l, X.N[p.2]? = some p.1 ∧ X.env.scope.names.lookup p.1 = some .local) → Vals vs us → RepVs (gx X) av α H xs vs → xs.length = l.length → RepS (gx X) av α H sl σ →
    (∀ s' σ', Inv X pins σ' H s' → RepS (gx X) av α H (setAll ((l.map (·.2)).zip xs) sl) σ' → Q () s') →
    wpAny (model X.prog X.w) X.A (assignInOrder (l.map fun p v => bindName X.env p.1 v) us) Q E0 s
  | [], xs, vs, us, s, σ, sl, Q, I, _, rv, rx, hl, S, q => by
    cases xs with
    | cons _ _ => cases hl
    | nil =>
      have e : vs = [] := rx
      subst e
      cases rv
      exact assignInOrder_nil (q s σ I S)
  | (x, i) :: l, xs, vs, us, s, σ, sl, Q, I, hp, rv, rx, hl, S, q => by
    cases xs with
    | nil => cases hl
    | cons y ys =>
      obtain ⟨v, r, e, q1, q2⟩ := rx
      subst e
      cases rv with
      | cons r1 r2 =>
        obtain ⟨h1, h2⟩ := hp (x, i) List.mem_cons_self
        refine assignInOrder_cons (wpAny_bindName (store_ok I hN h1 (.inl h2) r1 (fun s1 I1 => ?_) (.inr h2)))
        exact stores_ok hN l ys r _ s1 _ (sl.set i (some y)) Q I1 (fun p hm => hp p (List.mem_cons_of_mem _ hm)) r2 q2 (by simpa using hl) (S.set i q1) q
/-- a, b = x, y -/
def sPar (is : List Nat) (da : Da) : Sn := fun s h => sBind (da s h) fun xs h1 => if xs.length = is.length ∧ xs.length ≤ 3 then .nx (setAll (is.reverse.zip xs.reverse) s) h1 else .stuck
theorem Vals.rev {vs : List V} {us : List Value} (h : Vals vs us) : Vals vs.reverse us.reverse := L2.Vals.reverse h
theorem RepVs.rev {G : Gx} {av α : List Addr} {H : Hp} : ∀ {xs : List Va} {vs : List V}, RepVs G av α H xs vs → RepVs G av α H xs.reverse vs.reverse
  | [], _, h => by cases h; rfl
  | x :: xs, _, ⟨v, r, e, h1, h2⟩ => by
    subst e
    rw [List.reverse_cons, List.reverse_cons]
    exact (RepVs.rev h2).append ⟨v, [], rfl, h1, rfl⟩
theorem ss_par {es : List Expr} {da : Da} {l : List (Str × Nat)} {ts : List Expr} {kt k2 : Nat} {pt pt2 pos : Pos} (hc : X.calm = true) (hN : X.N.Nodup) (hl : ∀ p ∈ l, X.N[p.2]? = some p.1 ∧ X.env.scope.names.lookup p.1 = some .local)
    (ha : SA X E es da) (hw : swappedStores [.Tuple ts kt pt] (.Tuple es k2 pt2) X.env = pure (some (l.map (·.1)))) : SS X E (.Assign [.Tuple ts kt pt] (.Tuple es k2 pt2) pos) (sPar (l.map (·.2)) da) := by
  refine ⟨fun pins s σ H D I hq => ?_⟩
  obtain ⟨base, α, sl, h, R, S, P⟩ := hq
  have hs : swapsWithSole [.Tuple ts kt pt] (.Tuple es k2 pt2) pos.line X.env = pure false := rfl
  rw [exec_Assign_arm, hs]
  refine wpAny_bind (wpAny_standAt (wpAny_bind (wpAny_pure ?_)))
  rw [if_neg (by decide), hw]
  have ha' : tG (gx X) E (rVs (gx X)) da σ H (fun vs H1 => ∃ xs h1 α1, Rel (gx X) base α1 h1 H1 ∧ RepS (gx X) (base ++ own α1 h1) α1 H1 sl σ ∧ RepVs (gx X) (base ++ own α1 h1) α1 H1 xs vs ∧ xs.length = (l.map (·.2)).length ∧ xs.length ≤ 3 ∧
      PstS (gx X) E base α1 h1 H1 (.nx (setAll ((l.map (·.2)).reverse.zip xs.reverse) sl) h1) D) := by
    refine ⟨base, α, sl, h, R, S, PstS.bind P fun xs h1 α1 us H1 x1 R1 q1 P1 => ?_⟩
    split at P1
    · rename_i hz
      exact ⟨xs, h1, α1, R1, x1.sl S, q1, hz.1, hz.2, P1⟩
    · exact P1.elim
  refine wpAny_bind (Tuple_ (thn (ha.run _ pins s σ H _ I ha') fun us s1 hq1 => ?_))
  obtain ⟨vs, H1, I1, rv, xs, h1, α1, R1, S1, q1, n1, n3, P1⟩ := hq1
  have lv := q1.length
  have lu := rv.length
  have n3' : us.length ≤ sizeLine := by rw [sizeLine_eq]; omega
  refine wpAny_newObj_type ?_ n3'
  have I2 : Inv X pins σ H1 { s1 with heap := s1.heap.push { cls := .type "tuple", data := .seq us.toArray } } := I1.kept (t' := s1.toks) fun b o e => Heap.get?_push_of_some _ e
  refine wpAny_bind (wpAny_pure ?_)
  unfold assignStores
  dsimp only
  have hlen : (l.map (·.1)).length = us.toArray.size := by
    rw [List.size_toArray, List.length_map, ← lu, ← lv, n1, List.length_map]
  refine wpAny_bind (wpAny_rule (wpAny_bind ?_))
  rw [hlen]
  refine unpackItems_tuple (I.ok.hd hc) (IsTup.new s1.heap _) fun h' hx => ?_
  have I3 := I2.kept (h' := h') (t' := s1.toks) fun b o e => hx b o (Nat.ne_of_lt (Heap.lt_size e)) e
  refine wpAny_bind ?_
  have em : ((l.map (·.1)).reverse.map fun n => bindName X.env n) = l.reverse.map fun p v => bindName X.env p.1 v := by
    rw [← List.map_reverse, List.map_map]; rfl
  rw [em]
  refine stores_ok hN l.reverse xs.reverse vs.reverse us.toArray.toList.reverse _ σ sl _ I3 (fun p hp => hl p (List.mem_reverse.mp hp)) (by simpa using Vals.rev rv) q1.rev (by simpa using n1) S1 fun s' σ' I' S' => ?_
  refine wpAny_pure ⟨σ', H1, I', ?_⟩
  rw [List.map_reverse] at S'
  exact P1.sameN R1 S'

/-! ### o[i] = v -/
theorem Rel.write {G : Gx} {base α : List Addr} {h : Hh} {H : Hp} {r : Nat} {a : Addr} {ob ob' : Ob} {o : HO} (R : Rel G base α h H) (ea : α[r]? = some a) (eb : h[r]? = some ob) (hf : ob.isFrz = false) (hf' : ob'.isFrz = false)
    (q : Evo α h H α (h.set r ob') (upd H a o) → RepO G (base ++ own α (h.set r ob')) α (upd H a o) a ob') : Rel G base α (h.set r ob') (upd H a o) ∧ Evo α h H α (h.set r ob') (upd H a o) := by
  have hr : r < h.length := (List.getElem?_eq_some_iff.mp eb).1
  have own_eq : own α (h.set r ob') = own α h := by
    have : ∀ (α : List Addr) (h : Hh) (r : Nat), h[r]? = some ob → own α (h.set r ob') = own α h := by
      intro α
      induction α with
      | nil => intro h r _; cases h <;> simp [own]
      | cons b α ih =>
        intro h r e
        cases h with
        | nil => simp at e
        | cons c h =>
          cases r with
          | zero =>
            simp at e
            subst e
            rw [List.set_cons_zero, own, own, hf, hf']
          | succ r =>
            rw [List.set_cons_succ, own, own, ih h r (by simpa using e)]
    exact this α h r eb
  have mo : a ∈ own α h := mem_own.mpr ⟨r, ob, ea, eb, hf⟩
  have ev : Evo α h H α (h.set r ob') (upd H a o) := by
    refine ⟨⟨[], by simp⟩, fun b u e n => ?_, fun b m => ?_⟩
    · rw [upd_ne (fun z => n (by rw [z]; exact mo))]; exact e
    · rw [own_eq] at m; exact .inl m
  have up : ∀ {b}, H b ≠ none → upd H a o b ≠ none := fun {b} this => by
    by_cases z : b = a
    · rw [z, upd_same]; exact fun q => nomatch q
    · rw [upd_ne z]; exact this
  refine ⟨⟨by rw [List.length_set]; exact R.len, R.nd, by rw [own_eq]; exact R.dis, fun b m => up (R.bas b m), fun b m => up (R.trk b m), fun r2 b x e1 e2 => ?_⟩, ev⟩
  · by_cases z : r = r2
    · subst z
      rw [ea] at e1
      cases e1
      rw [List.getElem?_set_self hr] at e2
      cases e2
      exact q ev
    · rw [List.getElem?_set_ne z] at e2
      have nb : b ≠ a := by
        rintro rfl
        exact z (nodup_at R.nd ea e1)
      exact RepO.stay ev (fun _ => upd_ne nb) (R.obs r2 b x e1 e2)
/-- a list's item is put -/
def oSetL (o i v : Va) (h : Hh) : Option Hh := match o, i with
  | .ref r, .pv (.int k) => match h[r]? with
    | some (.lst xs) => match ixN xs.length k with
      | some j => some (h.set r (.lst (xs.set j v)))
      | none => none
    | _ => none
  | _, _ => none
/-- a dict's key is put -/
def putV (kvs : List (Key × Va)) (k : Key) (v : Va) : List (Key × Va) :=
  if (kvs.any fun kv => decide (kv.1 = k)) = true then kvs.map (fun kv => if kv.1 = k then (kv.1, v) else kv) else kvs ++ [(k, v)]
theorem fv_len {κ : Type} {G : Gx} {av α : List Addr} {H : Hp} : ∀ {kvs : List (κ × Va)} {ks : List (κ × V)}, RepFV G av α H kvs ks → kvs.length = ks.length
  | [], _, h => by cases h; rfl
  | p :: r, _, ⟨v, w, e, _, q⟩ => by rw [e, List.length_cons, List.length_cons, fv_len q]
theorem fv_put {G : Gx} {av α : List Addr} {H : Hp} {k : Key} {x : Va} {v : V} (hx : RepV G av α H x v) {kvs : List (Key × Va)} {ks : List (Key × V)} (q : RepFV G av α H kvs ks) : RepFV G av α H (putV kvs k x) (putK ks k v) := by
  have any : ∀ {kvs : List (Key × Va)} {ks : List (Key × V)}, RepFV G av α H kvs ks → (kvs.any fun kv => decide (kv.1 = k)) = (ks.any fun kv => decide (kv.1 = k)) := by
    intro kvs
    induction kvs with
    | nil => rintro ks h; cases h; rfl
    | cons p r ih =>
      rintro ks ⟨v, w, e, _, q⟩
      subst e
      rw [List.any_cons, List.any_cons, ih q]
  have mp : ∀ {kvs : List (Key × Va)} {ks : List (Key × V)}, RepFV G av α H kvs ks → RepFV G av α H (kvs.map fun kv => if kv.1 = k then (kv.1, x) else kv) (ks.map fun kv => if kv.1 = k then (kv.1, v) else kv) := by
    intro kvs
    induction kvs with
    | nil => rintro ks h; cases h; rfl
    | cons p r ih =>
      rintro ks ⟨v', w, e, q1, q⟩
      subst e
      rw [List.map_cons, List.map_cons]
      by_cases z : p.1 = k
      · rw [if_pos z, if_pos z]
        exact ⟨v, _, rfl, hx, ih q⟩
      · rw [if_neg z, if_neg z]
        exact ⟨v', _, rfl, q1, ih q⟩
  have sn : ∀ {kvs : List (Key × Va)} {ks : List (Key × V)}, RepFV G av α H kvs ks → RepFV G av α H (kvs ++ [(k, x)]) (ks ++ [(k, v)]) := by
    intro kvs
    induction kvs with
    | nil => rintro ks h; cases h; exact ⟨v, [], rfl, hx, rfl⟩
    | cons p r ih =>
      rintro ks ⟨v', w, e, q1, q⟩
      subst e
      exact ⟨v', _, rfl, q1, ih q⟩
  unfold putV putK
  rw [any q]
  split
  · exact mp q
  · exact sn q
def oSetD (o i v : Va) (h : Hh) : Option Hh := match o with
  | .ref r => match h[r]?, keyOf i with
    | some (.dct kvs), some k => if kvs.length < 16777216 then some (h.set r (.dct (putV kvs k v))) else none
    | _, _ => none
  | _ => none
def rSetK : TSet := fun o i v H Q => ∃ a kvs k, o = .ref a ∧ H a = some (.dK kvs) ∧ i = kV k ∧ kvs.length < sizeLine ∧ Q (upd H a (.dK (putK kvs k v)))
theorem set_dk {X : Cx} (hu : X.A.units + 1 < cLine) : PSet X rSetK := by
  intro pins s σ H o i v ov iv u Q I ro ri rv h
  obtain ⟨a, kvs, k, rfl, e, rfl, l, q⟩ := h
  obtain rfl : ov = Value.ref a := ro
  exact d_setItem hu I (.inl ⟨kvs, k, e, rfl, l, rfl⟩) ri rv fun s' I' => ⟨_, I', q⟩
theorem setD_rd {X : Cx} {base α : List Addr} {h h' : Hh} {H : Hp} {x y v : Va} {u1 u2 u3 : V} {Q : Hp → Prop} (R : Rel (gx X) base α h H) (r1 : RepV (gx X) (base ++ own α h) α H x u1) (r2 : RepV (gx X) (base ++ own α h) α H y u2) (r3 : RepV (gx X) (base ++ own α h) α H v u3)
    (e : oSetD x y v h = some h') (q : ∀ H', Evo α h H α h' H' → Rel (gx X) base α h' H' → Q H') : rSetK u1 u2 u3 H Q := by
  unfold oSetD at e
  split at e
  · rename_i r
    obtain ⟨a, ea, rfl⟩ := r1
    split at e
    · rename_i kvs k hx hk
      split at e
      · rename_i hl
        cases e
        obtain ⟨ks, e1, q1⟩ := R.obs _ _ _ ea hx
        refine ⟨a, ks, k, rfl, e1, keyOf_ok hk r2, by rw [sizeLine_eq, ← fv_len q1]; exact hl, ?_⟩
        have key := R.write (o := .dK (putK ks k u3)) (ob' := .dct (putV kvs k v)) ea hx rfl rfl fun ev => ⟨_, upd_same, fv_put (ev.va (G := gx X) r3) (ev.fvs (G := gx X) q1)⟩
        exact q _ key.2 key.1
      · cases e
    · cases e
  · cases e
def oSetI (o i v : Va) (h : Hh) : Option Hh := match dctOf h o with
  | some _ => oSetD o i v h
  | none => oSetL o i v h
theorem PSet.or {X : Cx} {t t' : TSet} (h : PSet X t) (h' : PSet X t') : PSet X (fun o i v H Q => t o i v H Q ∨ t' o i v H Q) := fun pins s σ H o i v ov iv u Q I ro ri rv q => by
  rcases q with q | q
  · exact h pins s σ H o i v ov iv u Q I ro ri rv q
  · exact h' pins s σ H o i v ov iv u Q I ro ri rv q
/-- o[i] = v: v first -/
def sSetI (d o i : Dn) : Sn := fun s h => sBind (d s h) fun v h1 => sBind (o s h1) fun x h2 => sBind (i s h2) fun y h3 => match oSetI x y v h3 with
  | some h4 => .nx s h4
  | none => .stuck
theorem setL_rd {base α : List Addr} {h h' : Hh} {H : Hp} {x y v : Va} {u1 u2 u3 : V} {Q : Hp → Prop} (R : Rel (gx X) base α h H) (r1 : RepV (gx X) (base ++ own α h) α H x u1) (r2 : RepV (gx X) (base ++ own α h) α H y u2) (r3 : RepV (gx X) (base ++ own α h) α H v u3)
    (e : oSetL x y v h = some h') (q : ∀ H', Evo α h H α h' H' → Rel (gx X) base α h' H' → Q H') : rSetL u1 u2 u3 H Q := by
  unfold oSetL at e
  split at e
  · rename_i r k
    obtain ⟨a, ea, rfl⟩ := r1
    split at e
    · rename_i xs hx
      split at e
      · rename_i j hj
        cases e
        obtain ⟨vs, e1, q1⟩ := R.obs _ _ _ ea hx
        have hlen := q1.length
        refine ⟨a, vs, k, j, rfl, rv_int.mp r2, e1, by rw [← hlen]; exact hj, ?_⟩
        have key := R.write (o := .lst (vs.set j u3)) (ob' := .lst (xs.set j v)) ea hx rfl rfl fun ev => ⟨_, upd_same, (ev.vas (G := gx X) q1).set j (ev.va (G := gx X) r3)⟩
        exact q _ key.2 key.1
      · cases e
    · cases e
  · cases e
theorem ss_setI {eo ei e : Expr} {d o i : Dn} {p pos : Pos} (hp : plainI ei = true) (he : SE X E e d) (ho : SE X E eo o) (hi : SE X E ei i) (hn : isComp e = false) (hu : X.A.units + 1 < cLine) : SS X E (.Assign [.Subscript eo ei p] e pos) (sSetI d o i) := by
  refine PS.imp (ps_asg he (pg_sub ho hi (PSet.or set_list (set_dk hu)) ?_) (noSwapSole hn) (by cases e <;> rfl)) fun D σ H ⟨base, α, s, h, R, S, P⟩ => ?_
  · intro v
    cases ei <;> first | rfl | cases hp
  · refine ⟨base, α, s, h, R, S, PstS.bind P fun v h1 α1 u1 H1 x1 R1 q1 P1 => ?_⟩
    refine ⟨base, α1, s, h1, R1, x1.sl S, PstS.bind P1 fun x h2 α2 u2 H2 x2 R2 q2 P2 => ?_⟩
    refine ⟨base, α2, s, h2, R2, (x1.trans x2).sl S, PstS.bind P2 fun y h3 α3 u3 H3 x3 R3 q3 P3 => ?_⟩
    split at P3
    · rename_i h4 e4
      unfold oSetI at e4
      split at e4
      · exact .inr (setD_rd R3 (x3.va q2) q3 ((x2.trans x3).va q1) e4 fun H4 ev R4 => P3 α3 σ H4 ev R4 ((x1.trans (x2.trans (x3.trans ev))).sl S))
      · exact .inl (setL_rd R3 (x3.va q2) q3 ((x2.trans x3).va q1) e4 fun H4 ev R4 => P3 α3 σ H4 ev R4 ((x1.trans (x2.trans (x3.trans ev))).sl S))
    · exact P3.elim

/-! ### while -/
/-- behind a turn -/
def turnEnd (r : SR) (k : Sn) : SR := match r with
  | .nx s h => k s h
  | .ct s h => k s h
  | .bk s h => .nx s h
  | .rt v h => .rt v h
  | .exc c fs h => .exc c fs h
  | .stuck => .stuck
def whS (t : Dt) (b k : Sn) : Sn := fun s h => sBind (t s h) fun q h1 => if q then turnEnd (b s h1) k else .nx s h1
def whN (t : Dt) (b : Sn) : Nat → Sn
  | 0 => fun _ _ => .stuck
  | n + 1 => whS t b (whN t b n)
/-- while: the answer that some number of turns gives -/
noncomputable def sWhl (t : Dt) (b : Sn) : Sn := fun s h => open Classical in if q : ∃ n, whN t b n s h ≠ .stuck then whN t b q.choose s h else .stuck
theorem whS_congr {t : Dt} {b k k' : Sn} {s : Sl} {h : Hh} (f : ∀ s' h', k s' h' ≠ .stuck → k' s' h' = k s' h') (hs : whS t b k s h ≠ .stuck) : whS t b k' s h = whS t b k s h := by
  unfold whS at hs ⊢
  cases ht : t s h with
  | stuck => rfl
  | exc c fs h' => rfl
  | ok q h1 =>
    rw [ht] at hs
    simp only [sBind] at hs ⊢
    cases q with
    | false => rfl
    | true =>
      simp only [if_true] at hs ⊢
      cases hb : b s h1 with
      | nx s2 h2 => rw [hb] at hs; exact f s2 h2 hs
      | ct s2 h2 => rw [hb] at hs; exact f s2 h2 hs
      | bk s2 h2 => rfl
      | rt v h2 => rfl
      | exc c fs h2 => rfl
      | stuck => rfl
theorem whN_more {t : Dt} {b : Sn} : ∀ {n m : Nat} {s : Sl} {h : Hh}, n ≤ m → whN t b n s h ≠ .stuck → whN t b m s h = whN t b n s h
  | 0, m, s, h, _, hs => absurd rfl hs
  | n + 1, 0, s, h, hm, _ => by omega
  | n + 1, m + 1, s, h, hm, hs => whS_congr (k := whN t b n) (k' := whN t b m) (fun s' h' q => whN_more (by omega) q) hs
theorem sWhl_of {t : Dt} {b : Sn} {n : Nat} {s : Sl} {h : Hh} {r : SR} (e : whN t b n s h = r) (hr : r ≠ .stuck) : sWhl t b s h = r := by
  have q : ∃ n, whN t b n s h ≠ .stuck := ⟨n, by rw [e]; exact hr⟩
  unfold sWhl
  rw [dif_pos q]
  have h1 := whN_more (Nat.le_max_left n q.choose) (by rw [e]; exact hr)
  have h2 := whN_more (Nat.le_max_right n q.choose) q.choose_spec
  rw [← h2, h1, e]
theorem sWhl_is {t : Dt} {b : Sn} {s : Sl} {h : Hh} (hr : sWhl t b s h ≠ .stuck) : ∃ n, whN t b n s h = sWhl t b s h := by
  unfold sWhl at hr ⊢
  split
  · rename_i q; exact ⟨_, rfl⟩
  · rename_i q; rw [dif_neg q] at hr; exact absurd rfl hr
/-- one turn -/
theorem sWhl_eq {t : Dt} {b : Sn} {s : Sl} {h : Hh} : sWhl t b s h = whS t b (sWhl t b) s h := by
  by_cases hz : sWhl t b s h = .stuck
  · rw [hz]
    by_cases q : whS t b (sWhl t b) s h = .stuck
    · exact q.symm
    · exfalso
      -- the turn's end is reached by some number of turns
      have key : ∃ n, whS t b (whN t b n) s h = whS t b (sWhl t b) s h := by
        unfold whS at q ⊢
        cases ht : t s h with
        | stuck => exact ⟨0, rfl⟩
        | exc c fs h' => exact ⟨0, rfl⟩
        | ok k h1 =>
          rw [ht] at q
          simp only [sBind] at q ⊢
          cases k with
          | false => exact ⟨0, rfl⟩
          | true =>
            simp only [if_true] at q ⊢
            cases hb : b s h1 with
            | stuck => exact ⟨0, rfl⟩
            | bk s2 h2 => exact ⟨0, rfl⟩
            | rt s2 h2 => exact ⟨0, rfl⟩
            | exc c fs h2 => exact ⟨0, rfl⟩
            | nx s2 h2 => rw [hb] at q; exact sWhl_is q
            | ct s2 h2 => rw [hb] at q; exact sWhl_is q
      obtain ⟨n, e⟩ := key
      have := sWhl_of (n := n + 1) (t := t) (b := b) (s := s) (h := h) e q
      rw [hz] at this
      exact q this.symm
  · obtain ⟨n, e⟩ := sWhl_is hz
    cases n with
    | zero => exact absurd e.symm hz
    | succ n =>
      rw [← e]
      have nz : whS t b (whN t b n) s h ≠ .stuck := fun z => hz (e.symm.trans z)
      exact (whS_congr (k := whN t b n) (k' := sWhl t b) (fun s' h' q => sWhl_of rfl q) nz).symm
theorem PstS.turn {G : Gx} {E : XK} {base α : List Addr} {h : Hh} {H : Hp} {r : SR} {k : Sn} {D : Ends} {N : L2.St → Hp → Prop} (P : PstS G E base α h H (turnEnd r k) D)
    (f : ∀ s h1 α1 σ H1, Evo α h H α1 h1 H1 → Rel G base α1 h1 H1 → RepS G (base ++ own α1 h1) α1 H1 s σ → PstS G E base α1 h1 H1 (k s h1) D → N σ H1) : PstS G E base α h H r { D with nx := N, ct := N, bk := D.nx } := by
  cases r with
  | nx s3 h3 => exact fun α3 σ3 H3 x3 R3 S3 => f s3 h3 α3 σ3 H3 x3 R3 S3 (PstS.step x3 P)
  | ct s3 h3 => exact fun α3 σ3 H3 x3 R3 S3 => f s3 h3 α3 σ3 H3 x3 R3 S3 (PstS.step x3 P)
  | bk s3 h3 => exact P
  | rt s3 h3 => exact P
  | exc c fs h3 => exact P
  | stuck => exact P
theorem ss_whl {c : Expr} {body : List Stmt} {t : Dt} {b : Sn} {pos : Pos} (hp : PassesOwn (model X.prog X.w) X.A X.env X.xe) (ht : STt X E c t) (hb : SB X E body b) : SS X E (.While c body [] pos) (sWhl t b) := by
  refine PS.imp (ps_while hp ht hb) fun D σ H ⟨base, α, s, h, R, S, P⟩ => ?_
  have hz : sWhl t b s h ≠ .stuck := fun z => by rw [z] at P; exact P
  obtain ⟨n, e⟩ := sWhl_is hz
  rw [← e] at P
  refine ⟨fun m σ H => ∃ α s h, Rel (gx X) base α h H ∧ RepS (gx X) (base ++ own α h) α H s σ ∧ PstS (gx X) E base α h H (whN t b m s h) D, ⟨n, α, s, h, R, S, P⟩, ?_⟩
  rintro m σ1 H1 ⟨α1, s1, h1, R1, S1, P1⟩
  cases m with
  | zero => exact P1.elim
  | succ m =>
    have P1 : PstS (gx X) E base α1 h1 H1 (sBind (t s1 h1) fun q h1 => if q then turnEnd (b s1 h1) (whN t b m) else .nx s1 h1) D := P1
    refine ⟨base, α1, s1, h1, R1, S1, PstS.bind P1 fun k h2 α2 u H2 x2 R2 q2 P2 => ?_⟩
    have q2 : k = u := q2
    subst q2
    cases k with
    | false => exact P2.sameN R2 (x2.sl S1)
    | true =>
      rw [if_pos rfl] at P2 ⊢
      exact ⟨fun σ' H' => ∃ α s h, Rel (gx X) base α h H' ∧ RepS (gx X) (base ++ own α h) α H' s σ' ∧ PstS (gx X) E base α h H' (whN t b m s h) D, fun σ' H' q => ⟨m, Nat.lt_succ_self m, q⟩, base, α2, s1, h2, R2, x2.sl S1,
        P2.turn fun s3 h3 α3 σ3 H3 x3 R3 S3 P3 => ⟨α3, s3, h3, R3, S3, P3⟩⟩
end
end CI
namespace CI
open PySem PySem.Spec PyProof.Rows L2

/-! ### what a loop walks -/
/-- from where the walk began to where it is -/
structure Later (av1 α1 : List Addr) (H1 : Hp) (av α : List Addr) (H : Hp) : Prop where
  ext : ∃ β, α = α1 ++ β
  mono : ∀ a o, H1 a = some o → a ∉ av1 → H a = some o ∧ a ∉ av
theorem Later.refl {av α H} : Later av α H av α H := ⟨⟨[], by simp⟩, fun _ _ e n => ⟨e, n⟩⟩
theorem Evo.later {base α α' : List Addr} {h h' : Hh} {H H' : Hp} (x : Evo α h H α' h' H') : Later (base ++ own α h) α H (base ++ own α' h') α' H' := ⟨x.ext, x.mono⟩
theorem Later.trans {av1 α1 H1 av2 α2 H2 av3 α3 H3} (x : Later av1 α1 H1 av2 α2 H2) (y : Later av2 α2 H2 av3 α3 H3) : Later av1 α1 H1 av3 α3 H3 := by
  obtain ⟨⟨β1, e1⟩, m1⟩ := x
  obtain ⟨⟨β2, e2⟩, m2⟩ := y
  exact ⟨⟨β1 ++ β2, by rw [e2, e1, List.append_assoc]⟩, fun a o e n => let ⟨e', n'⟩ := m1 a o e n; m2 a o e' n'⟩
theorem Later.va {G : Gx} {av1 α1 H1 av α H} (x : Later av1 α1 H1 av α H) {p : Va} {v : V} (r : RepV G av1 α1 H1 p v) : RepV G av α H p v := by
  cases p with
  | pv p => exact RepP.mono x.mono r
  | ref n =>
    obtain ⟨a, e, q⟩ := r
    obtain ⟨β, eb⟩ := x.ext
    exact ⟨a, by rw [eb, List.getElem?_append_left (List.getElem?_eq_some_iff.mp e).1]; exact e, q⟩
theorem Later.vas {G : Gx} {av1 α1 H1 av α H} (x : Later av1 α1 H1 av α H) : ∀ {p : List Va} {v : List V}, RepVs G av1 α1 H1 p v → RepVs G av α H p v
  | [], _, r => r
  | _ :: _, _, ⟨v, q, e, r1, r2⟩ => ⟨v, q, e, x.va r1, x.vas r2⟩
/-- the walk J yields the items xs, one by one, whatever else happens -/
structure IsIt (G : Gx) (J : It) (av1 α1 : List Addr) (H1 : Hp) (xs : List Va) : Prop where
  go : ∀ i av α H, i < xs.length → Later av1 α1 H1 av α H → J.go i H
  yld : ∀ i x base α h H u H', xs[i]? = some x → Rel G base α h H → Later av1 α1 H1 (base ++ own α h) α H → J.yld i H u H' → Evo α h H α h H' ∧ Rel G base α h H' ∧ RepV G (base ++ own α h) α H' x u
  stop : ∀ av α H, Later av1 α1 H1 av α H → J.stop xs.length H
def SI (X : Cx) (E : XK) (tg it : Expr) (d : Da) : Prop := PI X tg it fun σ H R => ∃ base α s h, Rel (gx X) base α h H ∧ RepS (gx X) (base ++ own α h) α H s σ ∧
  Pst (gx X) E base α h H (fun av α H xs (J : It) => IsIt (gx X) J av α H xs) (d s h) R
theorem PI.imp {X : Cx} {tg it : Expr} {t t' : TI} (p : PI X tg it t) (f : ∀ σ H R, t' σ H R → t σ H R) : PI X tg it t' := ⟨fun pins s σ H R I q => p.run pins s σ H R I (f σ H R q)⟩
theorem isIt_list {G : Gx} {av1 α1 : List Addr} {H1 : Hp} {a : Addr} {vs : List V} {xs : List Va} (hs : ∀ av α H, Later av1 α1 H1 av α H → SqL G.K H a vs) (q : RepVs G av1 α1 H1 xs vs) : IsIt G (Itl G.K a) av1 α1 H1 xs where
  go := fun i av α H hi lt => ⟨vs, vs[i]'(by rw [← q.length]; exact hi), hs _ _ _ lt, List.getElem?_eq_getElem _⟩
  yld := fun i x base α h H u H' e R lt y => by
    obtain ⟨e1, e2⟩ := y
    subst e1
    obtain ⟨u', e3, r⟩ := (lt.vas q).get e
    have := e2 _ (hs _ _ _ lt)
    rw [e3] at this
    cases this
    exact ⟨.refl, R, r⟩
  stop := fun av α H lt => ⟨vs, hs _ _ _ lt, by rw [q.length]; exact Nat.le_refl _⟩
theorem isIt_tup {G : Gx} {av1 α1 : List Addr} {H1 : Hp} {a : Addr} {vs : List V} {xs : List Va} (hs : ∀ av α H, Later av1 α1 H1 av α H → SqT G.K H a vs) (q : RepVs G av1 α1 H1 xs vs) : IsIt G (Itt G.K a) av1 α1 H1 xs where
  go := fun i av α H hi lt => ⟨vs, vs[i]'(by rw [← q.length]; exact hi), hs _ _ _ lt, List.getElem?_eq_getElem _⟩
  yld := fun i x base α h H u H' e R lt y => by
    obtain ⟨e1, e2⟩ := y
    subst e1
    obtain ⟨u', e3, r⟩ := (lt.vas q).get e
    have := e2 _ (hs _ _ _ lt)
    rw [e3] at this
    cases this
    exact ⟨.refl, R, r⟩
  stop := fun av α H lt => ⟨vs, hs _ _ _ lt, by rw [q.length]; exact Nat.le_refl _⟩
def rangeVa (lo : Int) (n : Nat) : List Va := (List.range n).map fun i => .pv (.int (lo + (i : Nat)))
theorem isIt_rng {G : Gx} {av1 α1 : List Addr} {H1 : Hp} {lo : Int} {n : Nat} : IsIt G (Itr lo n) av1 α1 H1 (rangeVa lo n) where
  go := fun i av α H hi lt => by
    have : i < n := by simpa [rangeVa] using hi
    exact this
  yld := fun i x base α h H u H' e R lt y => by
    obtain ⟨e1, e2⟩ := y
    subst e1 e2
    have : x = .pv (.int (lo + (i : Nat))) := by
      unfold rangeVa at e
      rw [List.getElem?_map] at e
      obtain ⟨j, e3, e4⟩ := Option.map_eq_some_iff.mp e
      obtain ⟨_, e5⟩ := List.getElem?_eq_some_iff.mp e3
      rw [List.getElem_range] at e5
      rw [← e4, ← e5]
    subst this
    exact ⟨.refl, R, rv_int.mpr rfl⟩
  stop := fun av α H lt => by
    show n ≤ (rangeVa lo n).length
    simp [rangeVa]

/-- what may be walked: a list, a tuple; it is given over -/
def seqOf : Pv → Option (List Va)
  | .lst ps => some (ps.map .pv)
  | .tup ps => some (ps.map .pv)
  | .scr ns => some (ns.map fun n => .pv (.int n))
  | _ => none
def iSeq (d : Dn) : Da := fun s h => (d s h).bind fun v h1 => match give v h1 with
  | some (p, h2) => match seqOf p with
    | some xs => .ok xs h2
    | none => .stuck
  | none => .stuck
section
variable {X : Cx} {E : XK} {tg : Expr}
/-- a list or a tuple, as it comes -/
def iAny (K : PySem.W.Frag) (tl : TE) : TI := fun σ H R => tl σ H fun x H1 => ∃ a, x = .ref a ∧ (((∃ xs, SqL K H1 a xs) ∧ R (Itl K a) H1) ∨ ((∃ xs, SqT K H1 a xs) ∧ R (Itt K a) H1))
theorem pi_any {l : Expr} {tl : TE} (hl : PE X l tl) : PI X tg l (iAny X.K tl) := by
  refine ⟨fun pins s σ H R I hq => thn (hl.run pins s σ H _ I hq) ?_⟩
  rintro v s1 ⟨x, H1, I1, r1, a, e, q⟩
  subst e
  cases r1
  have fp : ∀ b ∈ [s1.heap.objs.size], FpOk X pins H1 b := by
    intro b hb
    rw [List.mem_singleton.mp hb]
    exact I1.fpOk (Nat.le_refl _) (I1.hok.fresh (Nat.le_refl _))
  rcases q with ⟨⟨xs, hq⟩, q⟩ | ⟨⟨xs, hq⟩, q⟩
  · obtain ⟨its, rv, p, hz⟩ := I1.list hq
    exact wpAny_pyIter_list p.isList ⟨_, [_], _, _, H1, rfl, I1.kept (t' := s1.toks) (fun b o e => Heap.get?_push_of_some _ e), turn_list a _, ⟨_, Heap.get?_push_size _ rfl, rfl, rfl⟩, fp, q⟩
  · obtain ⟨its, rv, p, hz⟩ := I1.tuple hq
    exact wpAny_pyIter_tuple (show s1.heap.IsTuple a its.toArray from p) ⟨_, [_], _, _, H1, rfl, I1.kept (t' := s1.toks) (fun b o e => Heap.get?_push_of_some _ e), turn_tuple a _, ⟨_, Heap.get?_push_size _ rfl, rfl, rfl⟩, fp, q⟩
theorem si_seq {e : Expr} {d : Dn} (he : SE X E e d) : SI X E tg e (iSeq d) := by
  refine PI.imp (pi_any he) fun σ H R ⟨base, α, s, h, Rl, S, P⟩ => ?_
  refine ⟨base, α, s, h, Rl, S, Pst.bind P fun v h1 α1 u H1 x1 R1 q1 P1 => ?_⟩
  split at P1
  · rename_i p h2 e2
    obtain ⟨R2, x2, _, q2⟩ := give_ok _ _ _ _ _ _ _ _ _ e2 R1 q1
    have P2 := Pst.step x2 P1
    split at P2
    · rename_i xs e3
      unfold seqOf at e3
      split at e3
      · cases e3
        obtain ⟨a, vs, e1, t, q⟩ := repP_lst.mp q2
        exact ⟨a, e1, .inl ⟨⟨vs, t.sq⟩, P2.same R2 (isIt_list (fun av α H lt => (t.mono lt.mono).sq) (repVs_pv.mpr q))⟩⟩
      · cases e3
        obtain ⟨a, vs, e1, t, q⟩ := repP_tup.mp q2
        exact ⟨a, e1, .inr ⟨⟨vs, t.sq⟩, P2.same R2 (isIt_tup (fun av α H lt => (t.mono lt.mono).sq) (repVs_pv.mpr q))⟩⟩
      · rename_i ns
        cases e3
        obtain ⟨a, e1, t⟩ := repP_scr.mp q2
        refine ⟨a, e1, .inl ⟨⟨_, t.sq⟩, P2.same R2 (isIt_list (fun av α H lt => (t.mono lt.mono).sq) ?_)⟩⟩
        have q := repVs_pv (G := gx X) (av := base ++ own α1 h2) (α := α1) (H := H1).mpr (repPs_ints.mpr (rfl : ns.map V.int = _))
        rw [List.map_map] at q
        exact q
      · cases e3
    · exact P2.elim
  · exact P1.elim
theorem vals_cons {v : V} {vs : List V} {us : List Value} (h : Vals (v :: vs) us) : ∃ u r, us = u :: r ∧ RelV v u ∧ Vals vs r := by
  cases h with
  | cons a b => exact ⟨_, _, rfl, a, b⟩
/-- a far range's walk -/
theorem turn_far {P : Program} {w : World} {K : PySem.W.Frag} {tg : Expr} (it : Addr) (lo : Int) (n : Nat) : Turn P w K tg (Itr lo n) [it] it (fun i h => IsLongIter h it (lo + (i : Nat) * 1) ((n : Int) - (i : Nat)) 1) where
  mem := List.mem_singleton.mpr rfl
  obj := fun i h st b hb => by
    obtain rfl := List.mem_singleton.mp hb
    exact ⟨_, st, fun v z => nomatch (show Data.fields _ = Data.cell v from z)⟩
  keep := fun i h h' st k => k it (List.mem_singleton.mpr rfl) _ st
  item := by
    rintro X rfl rfl rfl hc i pins s σ H E I hf st hg
    obtain ⟨_, g1, _, g3, g4, g5⟩ := hf it (List.mem_singleton.mpr rfl)
    refine (Walks.longrange (prog := X.prog) (w := X.w) (I.ok.hd hc) it lo 1 n).item i s _ _ hg st ?_
    rintro v h' tk ⟨t, rfl⟩ st2 kk
    have I1 : Inv X pins σ H { s with heap := h', toks := tk } := I.turned (fun b o hb e => kk b o (fun z => hb (List.mem_singleton.mp z)) e) (hf it (List.mem_singleton.mpr rfl)).1 g1 g3 g4 g5
    exact ⟨_, rfl, go_of (s := { s with heap := h', toks := tk }) (n := "longrange_iterator") st2 rfl rfl (by decide) ⟨.int (lo + i), H, I1, ⟨t, by rw [Int.mul_one]⟩, ⟨rfl, rfl⟩, st2, fun b hb => (hf b hb).1⟩⟩
  done := by
    rintro X rfl rfl rfl hc i pins s σ H E I hf st hg
    obtain ⟨g0, g1, _, g3, g4, g5⟩ := hf it (List.mem_singleton.mpr rfl)
    have hn : n ≤ i := hg
    exact wpAny_pyNext_long_end (I.ok.hd hc) st (by omega) fun h' eb => ⟨rfl, I.turned (t' := s.toks) (fun b o hb e => eb b o hb e) g0 g1 g3 g4 g5⟩
  self := fun _ _ _ _ _ st h => wpAny_pyIter_longiter st h
/-- a range just made, of any ends -/
theorem range_any {pins : List (Addr × Obj)} {σ : L2.St} {H : Hp} {s : Shared} {R : It → Hp → Prop} {E0 : Value → Shared → Prop} {lo hi : Int} {t u v : Tok} {tk : Nat} (I : Inv X pins σ H s) (q : R (Itr lo (hi - lo).toNat) H) :
    wpAny (model X.prog X.w) X.A (pyIter (.ref s.heap.objs.size)) (PIE X pins σ tg R) E0 { s with heap := s.heap.push { cls := .type "range", data := .fields #[.int lo t, .int hi u, .int 1 v] }, toks := tk } := by
  have I1 : Inv X pins σ H { s with heap := s.heap.push { cls := .type "range", data := .fields #[.int lo t, .int hi u, .int 1 v] }, toks := tk } := I.kept fun b o e => Heap.get?_push_of_some _ e
  have size : (((hi - lo).toNat : Nat) : Int) - ((0 : Nat) : Int) = Builtin.Range.rangeSize lo hi 1 := by rw [rangeSize_one]; split <;> omega
  have at0 : lo + ((0 : Nat) : Int) * 1 = lo := by simp
  cases hs : Builtin.Range.small lo hi 1 with
  | true =>
    refine wpAny_pyIter_range (IsRange.new ..) hs ⟨_, [_], _, _, H, rfl, I1.kept (t' := tk) fun b o e => Heap.get?_push_of_some _ e, turn_range _ lo (hi - lo).toNat, ?_, fun b hb => ?_, q⟩
    · show IsRangeIter _ _ (lo + ((0 : Nat) : Int) * 1) ((((hi - lo).toNat : Nat) : Int) - ((0 : Nat) : Int)) 1
      rw [at0, size]
      exact Heap.get?_push_size _ rfl
    · obtain rfl := List.mem_singleton.mp hb
      exact I1.fpOk (Nat.le_refl _) (I1.hok.fresh (Nat.le_refl _))
  | false =>
    refine wpAny_pyIter_longrange (IsRange.new ..) hs ⟨_, [_], _, _, H, rfl, I1.kept (t' := tk) fun b o e => Heap.get?_push_of_some _ e, turn_far _ lo (hi - lo).toNat, ?_, fun b hb => ?_, q⟩
    · show IsLongIter _ _ (lo + ((0 : Nat) : Int) * 1) ((((hi - lo).toNat : Nat) : Int) - ((0 : Nat) : Int)) 1
      rw [at0, size]
      exact Heap.get?_push_size _ rfl
    · obtain rfl := List.mem_singleton.mp hb
      exact I1.fpOk (Nat.le_refl _) (I1.hok.fresh (Nat.le_refl _))
theorem pi_rangeA1 {a : Expr} {ta : TA} {p pos : Pos} (hg : Gl X "range") (hm : X.mg "range" = none) (hn : notStar a = true) (ha : PA X [a] ta) :
    PI X tg (.Call (.Name "range" p) [a] [] pos) (fun σ H R => ta σ H fun vs H1 => ∃ j : Int, vs = [.int j] ∧ R (Itr 0 j.toNat) H1) := by
  refine ⟨fun pins s σ H R I h => Call_ (ld_blt I hg hm boot_range (PyProof.Rows.callWith_type1 (thn (ha.run pos pins s σ H _ I h) ?_) (star_cons hn) rfl))⟩
  rintro us s1 ⟨vs, H1, I1, r1, j, rfl, q⟩
  obtain ⟨u, r, rfl, ⟨t, rfl⟩, r2⟩ := vals_cons r1
  cases r2
  exact call_range_1 (range_any I1 (by simpa using q))
theorem pi_rangeA2 {a b : Expr} {ta : TA} {p pos : Pos} (hg : Gl X "range") (hm : X.mg "range" = none) (hn : notStar a = true) (hn2 : notStar b = true) (ha : PA X [a, b] ta) :
    PI X tg (.Call (.Name "range" p) [a, b] [] pos) (fun σ H R => ta σ H fun vs H1 => ∃ i j : Int, vs = [.int i, .int j] ∧ R (Itr i (j - i).toNat) H1) := by
  refine ⟨fun pins s σ H R I h => Call_ (ld_blt I hg hm boot_range (PyProof.Rows.callWith_type1 (thn (ha.run pos pins s σ H _ I h) ?_) (by rw [star_cons hn, star_cons hn2]) (by rw [star_cons hn2]; rfl)))⟩
  rintro us s1 ⟨vs, H1, I1, r1, i, j, rfl, q⟩
  obtain ⟨u, r, rfl, ⟨t, rfl⟩, r2⟩ := vals_cons r1
  obtain ⟨u2, r, rfl, ⟨t2, rfl⟩, r3⟩ := vals_cons r2
  cases r3
  exact call_range_2 (range_any I1 q)
def iRng1 (da : Da) : Da := fun s h => (da s h).bind fun vs h1 => match vs with
  | [.pv (.int j)] => .ok (rangeVa 0 j.toNat) h1
  | _ => .stuck
def iRng2 (da : Da) : Da := fun s h => (da s h).bind fun vs h1 => match vs with
  | [.pv (.int i), .pv (.int j)] => .ok (rangeVa i (j - i).toNat) h1
  | _ => .stuck
theorem si_rng1 {a : Expr} {da : Da} {p pos : Pos} (hg : Gl X "range") (hm : X.mg "range" = none) (hn : notStar a = true) (ha : SA X E [a] da) : SI X E tg (.Call (.Name "range" p) [a] [] pos) (iRng1 da) := by
  refine PI.imp (pi_rangeA1 hg hm hn ha) fun σ H R ⟨base, α, s, h, Rl, S, P⟩ => ?_
  refine ⟨base, α, s, h, Rl, S, Pst.bind P fun v h1 α1 u H1 x1 R1 q1 P1 => ?_⟩
  split at P1
  · rename_i j
    obtain ⟨w, r, e1, r1, r2⟩ := q1
    have e2 : r = [] := r2
    subst e2
    rw [rv_int.mp r1] at e1
    exact ⟨j, e1, P1.same R1 isIt_rng⟩
  · exact P1.elim
theorem si_rng2 {a b : Expr} {da : Da} {p pos : Pos} (hg : Gl X "range") (hm : X.mg "range" = none) (hn : notStar a = true) (hn2 : notStar b = true) (ha : SA X E [a, b] da) : SI X E tg (.Call (.Name "range" p) [a, b] [] pos) (iRng2 da) := by
  refine PI.imp (pi_rangeA2 hg hm hn hn2 ha) fun σ H R ⟨base, α, s, h, Rl, S, P⟩ => ?_
  refine ⟨base, α, s, h, Rl, S, Pst.bind P fun v h1 α1 u H1 x1 R1 q1 P1 => ?_⟩
  split at P1
  · rename_i i j
    obtain ⟨w, r, e1, r1, w2, r', e2, r2, r3⟩ := q1
    have e3 : r' = [] := r3
    subst e3
    rw [rv_int.mp r1, e2, rv_int.mp r2] at e1
    exact ⟨i, j, e1, P1.same R1 isIt_rng⟩
  · exact P1.elim

/-! ### for -/
def forL (t : Tg) (b : Sn) : List Va → Sn
  | [] => fun s h => .nx s h
  | x :: xs => fun s h => match t.put x s h with
    | some s1 => turnEnd (b s1 h) (forL t b xs)
    | none => .stuck
def sFor (it : Da) (t : Tg) (b : Sn) : Sn := fun s h => sBind (it s h) fun xs h1 => forL t b xs s h1
theorem ss_for {it : Expr} {body : List Stmt} {d : Da} {t : Tg} {b : Sn} {pos : Pos} (hp : PassesOwn (model X.prog X.w) X.A X.env X.xe) (hc : X.calm = true) (hi : SI X E tg it d) (hg : STg X tg t) (hb : SB X E body b)
    (hs : ∀ x, foldedSetIterable it X.env x = pure x) : SS X E (.For tg it body [] pos) (sFor d t b) := by
  refine PS.imp (ps_for hp hc hi hg hb hs) fun D σ H ⟨base, α, s, h, R, S, P⟩ => ?_
  refine ⟨base, α, s, h, R, S, PstS.bind P fun xs h1 α1 J H1 x1 R1 hJ P1 => ?_⟩
  refine ⟨fun i m σ H => ∃ α s h, Rel (gx X) base α h H ∧ RepS (gx X) (base ++ own α h) α H s σ ∧ Later (base ++ own α1 h1) α1 H1 (base ++ own α h) α H ∧ i + m = xs.length ∧ PstS (gx X) E base α h H (forL t b (xs.drop i) s h) D,
    ⟨xs.length, α1, s, h1, R1, x1.sl S, .refl, Nat.zero_add _, P1⟩, ?_⟩
  rintro i m σ2 H2 ⟨α2, s2, h2, R2, S2, lt, em, P2⟩
  by_cases hi : i < xs.length
  · refine .inr ⟨hJ.go i _ _ _ hi lt, ?_⟩
    refine ⟨fun σ' H' => ∃ α s h, Rel (gx X) base α h H' ∧ RepS (gx X) (base ++ own α h) α H' s σ' ∧ Later (base ++ own α1 h1) α1 H1 (base ++ own α h) α H' ∧ PstS (gx X) E base α h H' (forL t b (xs.drop (i + 1)) s h) D,
      fun σ' H' ⟨α, s, h, R, S, l, p⟩ => ⟨m - 1, by omega, α, s, h, R, S, l, by omega, p⟩, fun u H3 y => ?_⟩
    obtain ⟨ev, R3, q3⟩ := hJ.yld i xs[i] base α2 h2 H2 u H3 (List.getElem?_eq_getElem hi) R2 lt y
    rw [List.drop_eq_getElem_cons hi] at P2
    refine ⟨base, α2, s2, h2, xs[i], R3, ev.sl S2, q3, ?_⟩
    rw [forL] at P2
    dsimp only at P2
    split at P2
    · rename_i s3 e3
      try rw [e3]
      refine fun σ3 _ S3 => ⟨base, α2, s3, h2, R3, S3, (PstS.step ev P2).turn fun s4 h4 α4 σ4 H4 x4 R4 S4 P4 => ?_⟩
      exact ⟨α4, s4, h4, R4, S4, (lt.trans ev.later).trans x4.later, P4⟩
    · exact P2.elim
  · have e0 : i = xs.length := by omega
    subst e0
    rw [List.drop_length] at P2
    exact .inl ⟨hJ.stop _ _ _ lt, P2.sameN R2 S2⟩
end
end CI
namespace CI
open PySem PySem.Spec PyProof.Rows L2

def wipeS (s : Sl) : List Nat → Sl
  | [] => s
  | v :: vs => (wipeS s vs).set v none
theorem wipeS_length (s : Sl) : ∀ vs, (wipeS s vs).length = s.length
  | [] => rfl
  | v :: vs => by unfold wipeS; rw [List.length_set, wipeS_length s vs]
theorem wipeS_some {s : Sl} {i : Nat} {x : Va} : ∀ {vs : List Nat}, (wipeS s vs)[i]? = some (some x) → s[i]? = some (some x) ∧ i ∉ vs
  | [], h => ⟨h, by simp⟩
  | v :: vs, h => by
    unfold wipeS at h
    by_cases hi : v = i
    · subst hi
      by_cases hv : v < (wipeS s vs).length
      · rw [List.getElem?_set_self hv] at h; cases h
      · rw [List.getElem?_eq_none (by simpa using hv)] at h; cases h
    · rw [List.getElem?_set_ne hi] at h
      obtain ⟨h1, h2⟩ := wipeS_some h
      exact ⟨h1, by simp only [List.mem_cons, not_or]; exact ⟨fun e => hi e.symm, h2⟩⟩
theorem wipe_at {σ : L2.St} {i : Nat} : ∀ {vs : List Nat}, i ∉ vs → (wipe σ vs)[i]? = σ[i]?
  | [], _ => rfl
  | v :: vs, h => by
    simp only [List.mem_cons, not_or] at h
    unfold wipe
    rw [List.getElem?_set_ne (Ne.symm h.1), wipe_at h.2]
theorem wipe_in {σ : L2.St} {i : Nat} : ∀ {vs : List Nat}, i ∈ vs → i < σ.length → (wipe σ vs)[i]? = some none
  | v :: vs, h, hl => by
    unfold wipe
    by_cases e : v = i
    · subst e
      rw [List.getElem?_set_self (by rw [wipe_length]; exact hl)]
    · rw [List.getElem?_set_ne e]
      rcases List.mem_cons.mp h with z | z
      · exact absurd z.symm e
      · exact wipe_in z hl
theorem wipe_same {σ σ' : L2.St} {vs ws : List Nat} (h : SameOff ws σ σ') (hs : ∀ i ∈ ws, i ∈ vs) : wipe σ' vs = wipe σ vs := by
  apply List.ext_getElem?
  intro i
  by_cases hi : i ∈ vs
  · by_cases hl : i < σ.length
    · rw [wipe_in hi hl, wipe_in hi (by rw [h.1]; exact hl)]
    · rw [List.getElem?_eq_none (by rw [wipe_length, h.1]; omega), List.getElem?_eq_none (by rw [wipe_length]; omega)]
  · rw [wipe_at hi, wipe_at hi, h.2 i fun z => hi (hs i z)]
theorem wipe_wipe {σ : L2.St} {vs : List Nat} : wipe (wipe σ vs) vs = wipe σ vs := by
  apply List.ext_getElem?
  intro i
  by_cases hi : i ∈ vs
  · by_cases hl : i < σ.length
    · rw [wipe_in hi (by rw [wipe_length]; exact hl), wipe_in hi hl]
    · rw [List.getElem?_eq_none (by rw [wipe_length, wipe_length]; omega), List.getElem?_eq_none (by rw [wipe_length]; omega)]
  · rw [wipe_at hi]
theorem RepS.wipe {G : Gx} {av α : List Addr} {H : Hp} {s : Sl} {σ : L2.St} (r : RepS G av α H s σ) (vs : List Nat) : RepS G av α H (wipeS s vs) (L2.wipe σ vs) := by
  refine ⟨by rw [wipeS_length, wipe_length, r.1], fun i v e => ?_⟩
  obtain ⟨e1, n⟩ := wipeS_some e
  obtain ⟨u, e2, q⟩ := r.2 i v e1
  exact ⟨u, by rw [wipe_at n]; exact e2, q⟩

/-! ### [elt for t in it if c] -/
def compL (t : Tg) (c : Dt) (d : Dn) (s : Sl) : List Va → List Pv → Hh → Res Va
  | [], acc, h => .ok (.pv (.lst acc)) h
  | x :: xs, acc, h => match t.put x s h with
    | some s1 => match c s1 h with
      | .ok true h1 => match d s1 h1 with
        | .ok v h2 => match give v h2 with
          | some (p, h3) => compL t c d s xs (acc ++ [p]) h3
          | none => .stuck
        | _ => .stuck
      | .ok false h1 => compL t c d s xs acc h1
      | _ => .stuck
    | none => .stuck
def dComp (it : Da) (vs : List Nat) (t : Tg) (c : Dt) (d : Dn) : Dn := fun s h => (it s h).bind fun xs h1 => if xs.length ≤ 1000000 then compL t c d (wipeS s vs) xs [] h1 else .stuck
def tYesD : Dt := fun _ h => .ok true h
abbrev noE : XK := fun _ _ _ => False
theorem Pst.get {G : Gx} {base α : List Addr} {h : Hh} {H : Hp} {β γ : Type} {rep : Rp β γ} {v : β} {h' : Hh} {r : Res β} {Q : γ → Hp → Prop} (e : r = .ok v h') (f : ∀ α' u H', Evo α h H α' h' H' → Rel G base α' h' H' → rep (base ++ own α' h') α' H' v u → Q u H') : Pst G noE base α h H rep r Q := by
  rw [e]; exact f
theorem RepO.later {G : Gx} {av1 α1 av α : List Addr} {H1 H : Hp} {a : Addr} {ob : Ob} (x : Later av1 α1 H1 av α H) (k : ob.isFrz = false → H a = H1 a) (q : RepO G av1 α1 H1 a ob) : RepO G av α H a ob := by
  have fvs : ∀ {κ : Type} {p : List (κ × Va)} {v : List (κ × V)}, RepFV G av1 α1 H1 p v → RepFV G av α H p v := by
    intro κ p
    induction p with
    | nil => intro v r; exact r
    | cons y ys ih =>
      rintro v ⟨w, q, e, r1, r2⟩
      exact ⟨w, q, e, x.va r1, ih r2⟩
  cases ob with
  | lst xs => obtain ⟨vs, e, r⟩ := q; exact ⟨vs, (k rfl).trans e, x.vas r⟩
  | ins c fs => obtain ⟨C, dx, gs, g, e, r⟩ := q; exact ⟨C, dx, gs, g, (k rfl).trans e, fvs r⟩
  | frz y => exact RepP.mono x.mono (show RepP G av1 H1 y (.ref a) from q)
  | dct kvs => obtain ⟨ks, e, r⟩ := q; exact ⟨ks, (k rfl).trans e, fvs r⟩
/-- with one address more to be avoided: a new object's -/
theorem Rel.more {G : Gx} {base α : List Addr} {h : Hh} {H : Hp} {D : Addr} {o : HO} (R : Rel G base α h H) (nD : H D = none) : Rel G (base ++ [D]) α h (upd H D o) ∧ Later (base ++ own α h) α H (base ++ [D] ++ own α h) α (upd H D o) := by
  obtain ⟨R', ev⟩ := R.laid (o := o) nD
  have ne : ∀ {b u}, H b = some u → b ≠ D := fun e => ne_of_none e nD
  have ltr : Later (base ++ own α h) α H (base ++ [D] ++ own α h) α (upd H D o) := by
    refine ⟨⟨[], by simp⟩, fun a u e n => ⟨by rw [upd_ne (ne e)]; exact e, ?_⟩⟩
    simp only [List.mem_append, List.mem_singleton, not_or] at n ⊢
    exact ⟨⟨n.1, ne e⟩, n.2⟩
  have nD2 : ∀ {a}, a ∈ own α h → a ≠ D := fun m z => R.tracked m (by rw [z]; exact nD)
  refine ⟨⟨R'.len, R'.nd, fun a m => ?_, fun a m => ?_, R'.trk, fun r a ob e1 e2 => ?_⟩, ltr⟩
  · simp only [List.mem_append, List.mem_singleton, not_or]
    exact ⟨R.dis a m, nD2 m⟩
  · rcases List.mem_append.mp m with m | m
    · exact R'.bas a m
    · rw [List.mem_singleton.mp m, upd_same]; exact fun q => nomatch q
  · exact RepO.later ltr (fun hf => upd_ne (nD2 (mem_own.mpr ⟨r, ob, e1, e2, hf⟩))) (R.obs r a ob e1 e2)
/-- .. it may be written, and is avoided on -/
theorem Rel.wr {G : Gx} {base α : List Addr} {h : Hh} {H : Hp} {D : Addr} {o : HO} (R : Rel G base α h H) (mD : D ∈ base) : Rel G base α h (upd H D o) ∧ Later (base ++ own α h) α H (base ++ own α h) α (upd H D o) := by
  have ltr : Later (base ++ own α h) α H (base ++ own α h) α (upd H D o) := by
    refine ⟨⟨[], by simp⟩, fun a u e n => ⟨?_, n⟩⟩
    rw [upd_ne]
    · exact e
    · rintro rfl; exact n (List.mem_append_left _ mD)
  have up : ∀ {b}, H b ≠ none → upd H D o b ≠ none := fun {b} this => by
    by_cases z : b = D
    · rw [z, upd_same]; exact fun q => nomatch q
    · rw [upd_ne z]; exact this
  refine ⟨⟨R.len, R.nd, R.dis, fun a m => up (R.bas a m), fun a m => up (R.trk a m), fun r a ob e1 e2 => ?_⟩, ltr⟩
  · exact RepO.later ltr (fun hf => upd_ne fun z => R.dis a (mem_own.mpr ⟨r, ob, e1, e2, hf⟩) (by rw [z]; exact mD)) (R.obs r a ob e1 e2)
/-- .. and no more avoided -/
theorem Rel.less {G : Gx} {base α : List Addr} {h : Hh} {H : Hp} {D : Addr} (R : Rel G (base ++ [D]) α h H) : Rel G base α h H ∧ Later (base ++ [D] ++ own α h) α H (base ++ own α h) α H ∧ D ∉ own α h := by
  have ltr : Later (base ++ [D] ++ own α h) α H (base ++ own α h) α H := by
    refine ⟨⟨[], by simp⟩, fun a u e n => ⟨e, ?_⟩⟩
    simp only [List.mem_append, List.mem_singleton, not_or] at n ⊢
    exact ⟨n.1.1, n.2⟩
  refine ⟨⟨R.len, R.nd, fun a m z => R.dis a m (List.mem_append_left _ z), fun a m => R.bas a (List.mem_append_left _ m), R.trk, fun r a ob e1 e2 => RepO.later ltr (fun _ => rfl) (R.obs r a ob e1 e2)⟩, ltr, fun m => R.dis D m (List.mem_append_right _ (List.mem_singleton.mpr rfl))⟩
theorem Evo.upd {α1 α : List Addr} {h1 h : Hh} {H1 H : Hp} {D : Addr} {o : HO} (x : Evo α1 h1 H1 α h H) (nD : H1 D = none) : Evo α1 h1 H1 α h (upd H D o) :=
  ⟨x.ext, fun a u e n => by rw [upd_ne (ne_of_none e nD)]; exact x.keep a u e n, x.ownm⟩
theorem Evo.laterD {base α1 α : List Addr} {h1 h : Hh} {H1 H : Hp} {D : Addr} (x : Evo α1 h1 H1 α h H) (nD : H1 D = none) : Later (base ++ own α1 h1) α1 H1 (base ++ [D] ++ own α h) α H := by
  refine ⟨x.ext, fun a u e n => ?_⟩
  obtain ⟨e1, n1⟩ := x.mono (base := base) a u e n
  refine ⟨e1, ?_⟩
  simp only [List.mem_append, List.mem_singleton, not_or] at n1 ⊢
  exact ⟨⟨n1.1, ne_of_none e nD⟩, n1.2⟩

section
variable {X : Cx} {E : XK} {it elt tg : Expr} {ifs : List Expr} {scope : Scope} {own' : List (Str × Nat)} {pos : Pos} {da : Da} {t : Tg} {c : Dt} {d : Dn}
/-- the reading of the whole from its parts -/
theorem comp_rd {wi : TI} {g : TG} {tt : TT} {te : TE} {vs : List Nat}
    (hi : ∀ σ H R, (∃ base α s h, Rel (gx X) base α h H ∧ RepS (gx X) (base ++ own α h) α H s σ ∧ Pst (gx X) E base α h H (fun av α H xs (J : It) => IsIt (gx X) J av α H xs) (da s h) R) → wi σ H R)
    (hg : ∀ u σ H Q, (∃ base α s h v, Rel (gx X) base α h H ∧ RepS (gx X) (base ++ own α h) α H s σ ∧ RepV (gx X) (base ++ own α h) α H v u ∧
      match t.put v s h with
      | some s' => ∀ σ', SameOff t.slots σ σ' → RepS (gx X) (base ++ own α h) α H s' σ' → Q σ' H
      | none => False) → g u σ H Q)
    (ht : ∀ σ H Q, tG (gx X) noE rB c σ H Q → tt σ H Q) (he : ∀ σ H Q, tG (gx X) noE (rV (gx X)) d σ H Q → te σ H Q) (hs : ∀ i ∈ t.slots, i ∈ vs) :
    ∀ σ H Q, tG (gx X) E (rV (gx X)) (dComp da vs t c d) σ H Q → tLc wi g tt te vs σ H Q := by
  intro σ H Q ⟨base, α, s, h, R, S, P⟩
  refine hi σ H _ ⟨base, α, s, h, R, S, Pst.bind P fun xs h1 α1 J H1 x1 R1 hJ P1 => ?_⟩
  intro D nD
  split at P1
  case isFalse => exact P1.elim
  rename_i hlen
  have S1 := (x1.sl S).wipe vs
  have mD : D ∈ base ++ [D] := List.mem_append_right _ (List.mem_singleton.mpr rfl)
  -- the invariant
  refine ⟨fun i m H => ∃ α h acc accV, Rel (gx X) (base ++ [D]) α h H ∧ Evo α1 h1 H1 α h H ∧ i + m = xs.length ∧ H D = some (.lst accV) ∧ accV.length = acc.length ∧ acc.length ≤ i ∧
      RepPs (gx X) (base ++ [D] ++ own α h) H acc accV ∧ Pst (gx X) E base α1 h1 H1 (rV (gx X)) (compL t c d (wipeS s vs) (xs.drop i) acc h) Q,
    ⟨xs.length, α1, h1, [], [], (R1.more (o := .lst []) nD).1, Evo.upd .refl nD, Nat.zero_add _, upd_same, rfl, Nat.le_refl _, repPs_nil.mpr rfl, P1⟩, ?_⟩
  rintro i m H2 ⟨α2, h2, acc, accV, R2, ev2, em, eD, el, ei, rp, P2⟩
  have lt := ev2.laterD (base := base) nD
  by_cases hlt : i < xs.length
  · refine .inr ⟨hJ.go i _ _ _ hlt lt, ?_⟩
    refine ⟨fun H => ∃ α h acc accV, Rel (gx X) (base ++ [D]) α h H ∧ Evo α1 h1 H1 α h H ∧ H D = some (.lst accV) ∧ accV.length = acc.length ∧ acc.length ≤ i + 1 ∧
        RepPs (gx X) (base ++ [D] ++ own α h) H acc accV ∧ Pst (gx X) E base α1 h1 H1 (rV (gx X)) (compL t c d (wipeS s vs) (xs.drop (i + 1)) acc h) Q,
      fun H' ⟨α, h, acc, accV, a1, a2, a4, a5, a6, a7, a8⟩ => ⟨m - 1, by omega, α, h, acc, accV, a1, a2, by omega, a4, a5, a6, a7, a8⟩, fun u H3 y => ?_⟩
    obtain ⟨ev, R3, q3⟩ := hJ.yld i xs[i] (base ++ [D]) α2 h2 H2 u H3 (List.getElem?_eq_getElem hlt) R2 lt y
    have ev3 := ev2.trans ev
    have SW : RepS (gx X) (base ++ [D] ++ own α2 h2) α2 H3 (wipeS s vs) (wipe σ vs) := ⟨S1.1, fun j v e => let ⟨w, e1, q⟩ := S1.2 j v e; ⟨w, e1, (ev3.laterD nD).va q⟩⟩
    rw [List.drop_eq_getElem_cons hlt] at P2
    rw [compL] at P2
    refine hg _ _ _ _ ⟨base ++ [D], α2, wipeS s vs, h2, xs[i], R3, SW, q3, ?_⟩
    split at P2
    case h_2 => exact P2.elim
    rename_i s3 e3
    refine fun σ3 o3 S3 => ⟨?_, ?_⟩
    · rw [wipe_same o3 hs, wipe_wipe]
    · have eD3 : H3 D = some (.lst accV) := ev.keep D _ eD fun m => R2.dis D m mD
      split at P2
      · rename_i h4 e4
        refine ht _ _ _ ⟨base ++ [D], α2, s3, h2, R3, S3, Pst.get e4 fun α4 b H4 x4 R4 q4 => ?_⟩
        have q4 : true = b := q4
        subst q4
        rw [if_pos rfl]
        split at P2
        · rename_i v5 h50 e5
          split at P2
          case h_2 => exact P2.elim
          rename_i p h5 e6
          refine he _ _ _ ⟨base ++ [D], α4, s3, h4, R4, x4.sl S3, Pst.get e5 fun α5 y5 H5 x50 R50 q50 => ?_⟩
          obtain ⟨R5, x51, _, q5⟩ := give_ok _ _ _ _ _ _ _ _ _ e6 R50 q50
          have x5 := x50.trans x51
          have eD5 : H5 D = some (.lst accV) := (x4.trans x5).keep D _ eD3 fun m => R3.dis D m mD
          refine ⟨accV, eD5, by rw [el, sizeLine_eq]; omega, ?_⟩
          obtain ⟨R6, l6⟩ := R5.wr (o := .lst (accV ++ [y5])) mD
          refine ⟨α5, h5, acc ++ [p], accV ++ [y5], R6, (ev3.trans (x4.trans x5)).upd nD, upd_same, by rw [List.length_append, List.length_append, el]; rfl, by rw [List.length_append]; simp; omega, ?_, P2⟩
          exact RepPs.append (RepPs.mono l6.mono (RepPs.mono ((ev.trans (x4.trans x5)).later (base := base ++ [D])).mono rp)) (.one (RepP.mono l6.mono q5))
        · exact P2.elim
      · rename_i h4 e4
        refine ht _ _ _ ⟨base ++ [D], α2, s3, h2, R3, S3, Pst.get e4 fun α4 b H4 x4 R4 q4 => ?_⟩
        have q4 : false = b := q4
        subst q4
        rw [if_neg (by decide)]
        have eD4 : H4 D = some (.lst accV) := x4.keep D _ eD3 fun m => R3.dis D m mD
        exact ⟨α4, h4, acc, accV, R4, ev3.trans x4, eD4, el, by omega, RepPs.mono ((ev.trans x4).later (base := base ++ [D])).mono rp, P2⟩
      · exact P2.elim
  · have e0 : i = xs.length := by omega
    subst e0
    rw [List.drop_length] at P2
    refine .inl ⟨hJ.stop _ _ _ lt, ?_⟩
    have P2 : Pst (gx X) E base α1 h1 H1 (rV (gx X)) (.ok (.pv (.lst acc)) h2) Q := P2
    obtain ⟨R4, l4, nO⟩ := R2.less
    refine P2 α2 _ H2 ev2 R4 (rv_lst.mpr ⟨D, accV, rfl, ⟨.inl eD, ?_⟩, RepPs.mono l4.mono rp⟩)
    rw [List.mem_append, not_or]
    exact ⟨fun z => R1.bas D z nD, nO⟩
/-- what is so of every block within X -/
abbrev Blks (X : Cx) (scope : Scope) (P : Cx → Prop) : Prop := ∀ (s : Shared) (H : Hp) (C : Addr) (cl : List (Str × Addr)) (fp : List Addr), P (X.blk s H scope (compEnvC scope cl C X.env) fp)
theorem pts_of {Y : Cx} {E' : XK} : ifs = [] → c = tYesD → PTs Y ifs (tG (gx Y) E' rB c) := fun e1 e2 => by
  subst e1 e2
  exact ⟨fun pins s σ H Q I ⟨base, α, sl, h, R, S, P⟩ => pts_nil.run pins s σ H Q I (P.same R rfl)⟩
theorem pts_of1 {Y : Cx} {E' : XK} {e : Expr} (h : STt Y E' e c) : PTs Y [e] (tG (gx Y) E' rB c) := pts_one h
theorem se_comp {vs : List Nat} (hc : X.calm = true) (hN : X.N.Nodup) (hi : SI X E tg it da) (ok : BlkOk X.N X.env.scope scope own') (hg : Blks X scope fun Y => STg Y tg t) (ht : Blks X scope fun Y => PTs Y ifs (tG (gx Y) noE rB c)) (he : Blks X scope fun Y => SE Y noE elt d)
    (hs : ∀ x, foldedSetIterable it X.env x = pure x) (hv : own'.map (·.2) = vs) (hsl : ∀ i ∈ t.slots, i ∈ vs) : SE X E (.ListComp elt [⟨tg, it, ifs, 0⟩] scope pos) (dComp da vs t c d) := by
  subst hv
  refine PE.imp (pe_lc (g := rdG (gx X) t) (tt := tG (gx X) noE rB c) (te := tG (gx X) noE (rV (gx X)) d) hc hN hi ok hg ht he hs) (comp_rd (fun _ _ _ q => q) (fun _ _ _ _ q => q) (fun _ _ _ q => q) (fun _ _ _ q => q) hsl)
theorem ss_setComp {vs : List Nat} {i : Nat} {y : Str} {py spos : Pos} (hc : X.calm = true) (hN : X.N.Nodup) (hy : X.N[i]? = some y) (hyl : X.env.scope.names.lookup y = some .local) (hsw : swapsWith (.ListComp elt [⟨tg, it, ifs, 0⟩] scope pos) (some (.Name y py)) spos.line X.env = pure true)
    (hi : SI X E tg it da) (ok : BlkOk X.N X.env.scope scope own') (hg : Blks X scope fun Y => STg Y tg t) (ht : Blks X scope fun Y => PTs Y ifs (tG (gx Y) noE rB c)) (he : Blks X scope fun Y => SE Y noE elt d)
    (hs : ∀ x, foldedSetIterable it X.env x = pure x) (hv : own'.map (·.2) = vs) (hsl : ∀ i ∈ t.slots, i ∈ vs) : SS X E (.Assign [.Name y py] (.ListComp elt [⟨tg, it, ifs, 0⟩] scope pos) spos) (sAsg (gNm i) (dComp da vs t c d)) := by
  subst hv
  refine PS.imp (ps_setLc (g := rdG (gx X) t) (tt := tG (gx X) noE rB c) (te := tG (gx X) noE (rV (gx X)) d) hc hN hy hyl hsw hi ok hg ht he hs) fun D σ H q => ?_
  have q2 := asg_rd (X := X) (g := gName i) (fun u σ H Q ⟨base, α, s, h, v, R, S, q, P⟩ => P _ same_set (S.set i q)) D σ H q
  exact comp_rd (fun _ _ _ q => q) (fun _ _ _ _ q => q) (fun _ _ _ q => q) (fun _ _ _ q => q) hsl σ H _ q2
end
end CI
namespace CI
open PySem PySem.Spec PyProof.Rows L2

/-! ### defs, where no repr is under way -/
structure FnG (P : Program) (w : World) (K : PySem.W.Frag) (mg : Str → Option Value) (base : Heap) (k : Nat) (f : Addr) (fd : FuncData) (ps : List Str) (sp : Sp) : Prop where
  len : ∀ vs H Q E, sp vs H Q E → vs.length = ps.length
  run : ∀ (A : Around) (outer : List Env) (s : Shared) (H : Hp) (args : Args) (us : List Value) (vs : List V) (Q : VK) (E : XK), Room k A → A.guards = some [] → Env0 P w K mg base A outer s H → BindsTo s fd args (ps.zip us) →
    Vals vs us → sp vs H Q E → codeAny (model P w) A (.call (.ref f) args) (CR (L2.CX P w) outer P w H s Q E) s
section
variable {P : Program} {w : World} {K : PySem.W.Frag} {mg : Str → Option Value} {base : Heap} {f : Addr} {fd : FuncData} {ps : List Str} {sp : Sp}
theorem FnG.mono {j k : Nat} (F : FnG P w K mg base j f fd ps sp) (h : j ≤ k) : FnG P w K mg base k f fd ps sp :=
  ⟨F.len, fun A outer s H args us vs Q E hr => F.run A outer s H args us vs Q E (hr.mono h)⟩
theorem deeper_guards {A : Around} {env : Env} (h : A.guards = some []) : (A.deeper env).guards = some [] := h
/-- a def by its body -/
theorem fnG_of {k : Nat} {name qual : Str} {params : Arguments} {body : List Stmt} {scope : Scope} {dV kV doc pm cdv ct oc : Value} {an od : Option Addr} {osl : Array (Option Value)} {N : List Str}
    (lk : K.lookup f = some ⟨oc, od, .func (PySem.W.fnOf name qual params body scope dV kV doc pm an cdv ct), osl⟩)
    (hcd : PySem.W.codeIn K cdv qual = true) (S : FnScope N ps scope) (len : ∀ vs H Q E, sp vs H Q E → vs.length = ps.length)
    (hbody : ∀ (A : Around) (outer : List Env) (s : Shared) (H : Hp) (vs : List V) (Q : VK) (E : XK), Room k (A.deeper (envOfC qual scope s.heap.objs.size f cdv)) → A.guards = some [] → sp vs H Q E →
      ∃ t, PSs (cxOf (L2.CX P w) P w K mg base N qual scope f cdv A outer s H E) body t ∧ t { nx := fun _ H' => Q .non H', rt := Q } (start N vs) H) :
    FnG P w K mg base (k + 1) f (PySem.W.fnOf name qual params body scope dV kV doc pm an cdv ct) ps sp := by
  refine ⟨len, ?_⟩
  intro A outer s H args us vs Q E hr hg e0 hb r hsp
  have KX : K.In s.heap := e0.mod.kin.keeps (fun b o e => (e0.bs b o e).1)
  have lim : s.heap.NoLimit := e0.mod.nolimit.keeps (fun b o e => (e0.bs b o e).1)
  have hkinds : ∀ y ∈ ps.zip us, scope.names.lookup y.1 = some .local ∨
      (scope.names.lookup y.1 = some .cell ∧ ((cellsFrom (s.heap.objs.size + 1) scope.names []).lookup y.1).isSome = true) := by
    rintro ⟨n, v⟩ hy
    have hm : n ∈ ps := (List.of_mem_zip hy).1
    rcases S.par n hm with q | q
    · exact Or.inl q
    · exact Or.inr ⟨q, PySem.W.cellsFrom_some _ _ _ (Or.inl q)⟩
  refine codeAny_call_function hr.depth (KX _ _ lk) rfl S.co S.gen rfl (PySem.W.codeRec_of KX hcd) (hb _ _ _ _ (wpAny_newFunctionEnv_cells S.kind hkinds fun env he s1 x => ?_))
  subst he
  refine ⟨lim.keeps x.toInCall.keep, codeAny_func ?_⟩
  obtain ⟨t, ht, hq⟩ := hbody A outer s H vs Q E (hr.deeper _) hg hsp
  have I := inv_start (CX := L2.CX P w) (E := E) S hr.hd e0 (len _ _ _ _ hsp) r x
  refine wpAny_mono (ht.run [] s1 (start N vs) H _ I hq) ?_ (fun e s' hs => hs)
  intro fl s' hs
  cases fl with
  | ret u =>
    obtain ⟨v, σ', H', J, rv, q⟩ := hs
    exact ⟨v, H', J.os, J.bare, J.base, J.hok, rv, q⟩
  | next =>
    obtain ⟨σ', H', J, q⟩ := hs
    exact ⟨V.non, H', J.os, J.bare, J.base, J.hok, rfl, q⟩
  | brk => obtain ⟨_, _, _, q⟩ := hs; exact q.elim
  | cont => obtain ⟨_, _, _, q⟩ := hs; exact q.elim
end
section
variable {X : Cx} {k n : Nat} {f : Addr} {fd : FuncData} {ps ks : List Str} {sp : Sp} {E : XK} {g : List Value → List Value → List Value} {gV : List V → List V → List V}
/-- behind a call -/
theorem cr_end {pins : List (Addr × Obj)} {σ : L2.St} {H : Hp} {s : Shared} {Q : VK} (hx : Passes (L2.CX X.prog X.w) X E) (I : Inv X pins σ H s) {r : Result} {s' : Shared} (hq : CR (L2.CX X.prog X.w) X.stack X.prog X.w H s Q E r s') :
    match r with
    | .ok (.ret u) => EP X pins σ Q u s'
    | .ok _ => False
    | .error e => X.xe e s' := by
  cases r with
  | error e => exact hx pins σ H s e s' I hq
  | ok fl =>
    cases fl with
    | ret u => exact I.after hq
    | next => exact hq
    | brk => exact hq
    | cont => exact hq
theorem run_g {pins : List (Addr × Obj)} {σ : L2.St} {H : Hp} {s : Shared} {Q : VK} {us ws : List Value} {vs zs : List V} (F : FnG X.prog X.w X.K X.mg X.base k f fd ps sp) (hr : Room k X.A) (hg : X.A.guards = some []) (hb : KBn X.K fd ps n ks g gV)
    (hx : Passes (L2.CX X.prog X.w) X E) (I : Inv X pins σ H s) (r : Vals vs us) (rz : Vals zs ws) (l1 : vs.length = n) (l2 : zs.length = ks.length) (h : sp (gV vs zs) H Q E) :
    wpAny (model X.prog X.w) X.A (call (.ref f) us (ks.zip ws)) (EP X pins σ Q) X.xe s := by
  have bt := hb.to s us ws I.kIn (by rw [← r.length, l1]) (by rw [← rz.length, l2])
  refine wpAny_call (codeAny_mono (F.run X.A X.stack s H ⟨us, ks.zip ws⟩ (g us ws) (gV vs zs) Q E hr hg I.env0 bt (hb.rel r rz) h) ?_)
  intro r s' hq
  have e := cr_end hx I hq
  cases r with
  | error e' => exact e
  | ok fl => cases fl <;> first | exact e | exact e.elim
def tCg (n m : Nat) (sp : Sp) (gV : List V → List V → List V) (E : XK) (t tk : TA) : TE := fun σ H Q => t σ H fun vs H1 => tk σ H1 fun zs H2 => vs.length = n ∧ zs.length = m ∧ sp (gV vs zs) H2 Q E
theorem kw_all {pos : Pos} {env : Env} : ∀ {kws : List Keyword}, kws.all (fun k => k.arg.isSome) = true → (backToKw pos (keywordEach kws env)).all (·.1.isSome) = true ∧ (backToKw pos (keywordEach kws env)).filterMap (·.1) = kws.filterMap (·.arg) ∧ (backToKw pos (keywordEach kws env)).any (·.1.isNone) = false
  | [], _ => ⟨rfl, rfl, rfl⟩
  | ⟨nm, e, p⟩ :: kws, h => by
    rw [List.all_cons, Bool.and_eq_true] at h
    obtain ⟨h1, h2, h3⟩ := kw_all (pos := pos) (env := env) h.2
    cases nm with
    | none => cases h.1
    | some x =>
      refine ⟨?_, ?_, ?_⟩
      · show ((some x).isSome && (backToKw pos (keywordEach kws env)).all (·.1.isSome)) = true
        rw [h1]; rfl
      · show x :: (backToKw pos (keywordEach kws env)).filterMap (·.1) = x :: kws.filterMap (·.arg)
        rw [h2]
      · show ((some x).isNone || (backToKw pos (keywordEach kws env)).any (·.1.isNone)) = false
        rw [h3]; rfl
end
end CI
namespace CI
open PySem PySem.Spec PyProof.Rows L2

abbrev Fn := List Va → Hh → Res Va
/-- a def's promise: it tells what F tells -/
def spF (G : Gx) (m : Nat) (F : Fn) : Sp := fun vs H Q E => vs.length = m ∧ ∃ base α h args, Rel G base α h H ∧ RepVs G (base ++ own α h) α H args vs ∧ Pst G E base α h H (rV G) (F args h) Q
/-- how a call's values come to the parameters -/
structure CallOk (G : Gx) (fd : FuncData) (ps : List Str) (n : Nat) (ks : List Str) (asm : List Va → List Va → List Va) : Prop where
  ex : ∃ g gV, KBn G.K fd ps n ks g gV ∧ (∀ vs zs : List V, vs.length = n → zs.length = ks.length → (gV vs zs).length = ps.length) ∧
    ∀ av α H us vs ws zs, vs.length = n → zs.length = ks.length → RepVs G av α H us vs → RepVs G av α H ws zs → RepVs G av α H (asm us ws) (gV vs zs)
/-- a def that stands at x and tells what F tells -/
structure DefAt (X : Cx) (x : Str) (k : Nat) (ps : List Str) (F : Fn) (n : Nat) (ks : List Str) (asm : List Va → List Va → List Va) : Prop where
  ex : ∃ f fd, X.mg x = some (.ref f) ∧ PySem.W.keepIn X.K (.ref f) = true ∧ FnG X.prog X.w X.K X.mg X.base k f fd ps (spF (gx X) ps.length F) ∧ CallOk (gx X) fd ps n ks asm
section
variable {X : Cx} {E : XK} {x : Str} {p pos : Pos} {e : Expr} {es : List Expr} {kws : List Keyword} {t tk : TA} {k n : Nat} {f : Addr} {fd : FuncData} {ps ks : List Str} {sp : Sp} {g : List Value → List Value → List Value} {gV : List V → List V → List V}
theorem pe_g (F : FnG X.prog X.w X.K X.mg X.base k f fd ps sp) (hr : Room k X.A) (hgd : X.A.guards = some []) (hg : Gl X x) (hm : X.mg x = some (.ref f)) (hk : PySem.W.keepIn X.K (.ref f) = true) (hb : KBn X.K fd ps n ks g gV) (hx : Passes (L2.CX X.prog X.w) X E)
    (ha : (es = [] ∧ t = tNil) ∨ (es ≠ [] ∧ PA X es t)) (hkw : PK X kws tk) (hn : es.all notStar = true) (hkn : kws.all (fun k => k.arg.isSome) = true) (hks : kws.filterMap (·.arg) = ks) (hdb : (x == ("__debug__" : Str)) = false) : PE X (.Call (.Name x p) es kws pos) (tCg n ks.length sp gV E t tk) := by
  refine ⟨fun pins s σ H Q I h => wpAny_Call_Name_kw (ld_glob I hg hm ?_ hdb)⟩
  obtain ⟨k1, k2, k3⟩ := kw_all (pos := pos) (env := X.env) hkn
  rw [hks] at k2
  have main : ∀ {us : List Value} {vs : List V} {H1 : Hp} {s1 : Shared}, Inv X pins σ H1 s1 → Vals vs us → (tk σ H1 fun zs H2 => vs.length = n ∧ zs.length = ks.length ∧ sp (gV vs zs) H2 Q E) →
      wpAny (model X.prog X.w) X.A (evalAll ((backToKw pos (keywordEach kws X.env)).map (·.2))) (fun ws s2 => X.K.In s2.heap ∧ wpAny (model X.prog X.w) X.A (call (.ref f) us (((backToKw pos (keywordEach kws X.env)).filterMap (·.1)).zip ws)) (EP X pins σ Q) X.xe s2) X.xe s1 := by
    intro us vs H1 s1 I1 r q
    refine thn (hkw.run pos pins s1 σ H1 _ I1 q) ?_
    rintro ws s2 ⟨zs, H2, I2, rz, l1, l2, q2⟩
    rw [k2]
    exact ⟨I2.kIn, run_g F hr hgd hb hx I2 r rz l1 l2 q2⟩
  rcases ha with ⟨rfl, rfl⟩ | ⟨ne, ha⟩
  · exact PySem.W.callWith_KW0 (h₀ := X.base) I.ok.mod.kin hk k1 (main I .nil h) (by rw [k3]; rfl)
  · cases es with
    | nil => exact absurd rfl ne
    | cons e es =>
      rw [List.all_cons, Bool.and_eq_true] at hn
      refine PySem.W.callWith_KW (h₀ := X.base) I.ok.mod.kin hk k1 (thn (ha.run pos pins s σ H _ I h) ?_) ?_ (star_cons hn.1)
      · rintro us s1 ⟨vs, H1, I1, r, q⟩
        exact main I1 r q
      · rw [k3, star_cons hn.1]
        show ((false || (backTo pos (starEach es X.env)).any (·.1)) || false) = false
        rw [star_any hn.2]; rfl
/-- the keywords' values -/
def SKw (X : Cx) (E : XK) (kws : List Keyword) (d : Da) : Prop := PK X kws (tG (gx X) E (rVs (gx X)) d)
theorem PK.imp {kws : List Keyword} {t t' : TA} (p : PK X kws t) (f : ∀ σ H Q, t' σ H Q → t σ H Q) : PK X kws t' := ⟨fun pos pins s σ H Q I q => p.run pos pins s σ H Q I (f σ H Q q)⟩
theorem skw_nil : SKw X E [] daNil := PK.imp pk_nil fun σ H Q ⟨base, α, s, h, R, S, P⟩ => P.same (u := []) R rfl
theorem skw_cons {nm : Option Str} {kp : Pos} {d : Dn} {r : Da} (ha : SE X E e d) (hr : SKw X E kws r) : SKw X E (⟨nm, e, kp⟩ :: kws) (daCons d r) := by
  refine PK.imp (pk_cons ha hr) fun σ H Q ⟨base, α, s, h, R, S, P⟩ => ?_
  refine ⟨base, α, s, h, R, S, P.bind fun v h1 α1 u H1 x1 R1 q1 P1 => ?_⟩
  refine ⟨base, α1, s, h1, R1, x1.sl S, P1.bind fun vs h2 α2 us H2 x2 R2 q2 P2 => ?_⟩
  exact P2.same R2 ⟨u, us, rfl, x2.va q1, q2⟩
/-- a call, the heap as it is -/
def dCall (F : Fn) (n m : Nat) (asm : List Va → List Va → List Va) (da dk : Da) : Dn := fun s h => (da s h).bind fun us h1 => (dk s h1).bind fun ws h2 => if us.length = n ∧ ws.length = m then F (asm us ws) h2 else .stuck
/-- what a def without places tells -/
inductive PR where
  | ok (p : Pv) | exc (c : Str) (fs : List (Str × Pv)) | stuck
def pcall (F : Fn) (ps : List Pv) : PR := match F (ps.map .pv) [] with
  | .ok v h => match give v h with
    | some (p, _) => .ok p
    | none => .stuck
  | .exc c fs _ => .exc c fs
  | .stuck => .stuck
def PR.res : PR → Hh → Res Va
  | .ok p, h => .ok (.pv p) h
  | .exc c fs, h => .exc c fs h
  | .stuck, _ => .stuck
/-- a call, what is handed in given over; nothing is changed -/
def dCallP (F : Fn) (n m : Nat) (asm : List Va → List Va → List Va) (da dk : Da) : Dn := fun s h => (da s h).bind fun us h1 => (dk s h1).bind fun ws h2 => if us.length = n ∧ ws.length = m then (match gives give (asm us ws) h2 with
  | some (ps, h3) => (pcall F ps).res h3
  | none => .stuck) else .stuck
/-- from a def's full promise to that without places -/
theorem spF_pure {G : Gx} {E : XK} {base α : List Addr} {h : Hh} {H : Hp} {m : Nat} {F : Fn} {ps : List Pv} {us : List V} {Q : VK} (R : Rel G base α h H) (q : RepPs G (base ++ own α h) H ps us) (hm : us.length = m) (P : Pst G E base α h H (rV G) ((pcall F ps).res h) Q) :
    spF G m F us H Q E := by
  refine ⟨hm, base ++ own α h, [], [], ps.map .pv, ⟨rfl, List.nodup_nil, fun a m => by simp [own] at m, fun a m => ?_, fun a m => (by cases m), fun r a ob e => by simp at e⟩, repVs_pv.mpr (by simpa [own] using q), ?_⟩
  · rcases List.mem_append.mp m with m | m
    · exact R.bas a m
    · exact R.tracked m
  · have back : ∀ {α' : List Addr} {h' : Hh} {H' : Hp}, Evo [] [] H α' h' H' → Evo α h H α h H' ∧ Rel G base α h H' := by
      intro α' h' H' x
      have k : ∀ a o, H a = some o → H' a = some o := fun a o e => x.keep a o e (by simp [own])
      have ev : Evo α h H α h H' := ⟨⟨[], by simp⟩, fun a o e _ => k a o e, fun a m => .inl m⟩
      have up : ∀ {b}, H b ≠ none → H' b ≠ none := fun {b} this z => by
        cases e : H b with
        | none => exact this e
        | some o => rw [k b o e] at z; cases z
      refine ⟨ev, ⟨R.len, R.nd, R.dis, fun a m => up (R.bas a m), fun a m => up (R.trk a m), fun r a ob e1 e2 => RepO.stay ev (fun hf => ?_) (R.obs r a ob e1 e2)⟩⟩
      · have t := R.tracked (mem_own.mpr ⟨r, ob, e1, e2, hf⟩)
        cases e : H a with
        | none => exact absurd e t
        | some o => exact k a o e
    unfold pcall at P
    cases hF : F (ps.map .pv) [] with
    | stuck => rw [hF] at P; exact P
    | exc c fs h' =>
      rw [hF] at P
      intro α' cls d H' x R' q'
      obtain ⟨ev, Rb⟩ := back x
      refine P α cls d H' ev Rb ?_
      obtain ⟨C, dx, gs, m1, m2, m3, m4, m5, m6⟩ := q'
      rw [List.mem_append, not_or] at m5
      exact ⟨C, dx, gs, m1, m2, m3, m4, m5.1, RepFs.mono (fun b o e n => ⟨e, fun z => n (List.mem_append_left _ z)⟩) m6⟩
    | ok v h' =>
      rw [hF] at P
      intro α' u H' x R' q'
      obtain ⟨ev, Rb⟩ := back x
      dsimp only at P
      split at P
      · rename_i p h2 e2
        obtain ⟨R2, x2, _, q2⟩ := give_ok _ _ _ _ _ _ _ _ _ e2 R' q'
        exact P α u H' ev Rb (RepP.mono (fun b o e n => ⟨e, fun z => n (List.mem_append_left _ z)⟩) q2)
      · exact P.elim
end
section
variable {X : Cx} {E : XK} {x : Str} {p pos : Pos} {es : List Expr} {kws : List Keyword} {k n : Nat} {ps ks : List Str} {F : Fn} {asm : List Va → List Va → List Va} {da dk : Da}
theorem vs_len {G : Gx} {av α : List Addr} {H : Hp} {us : List Va} {vs : List V} (q : RepVs G av α H us vs) : vs.length = us.length := q.length.symm
theorem pa_daNil {es : List Expr} (hs : es = [] → da = daNil) (ha : es ≠ [] → SA X E es da) {Q : Prop} (f : ∀ t, (∀ σ H Q, tG (gx X) E (rVs (gx X)) da σ H Q → t σ H Q) → ((es = [] ∧ t = tNil) ∨ (es ≠ [] ∧ PA X es t)) → Q) : Q := by
  by_cases h : es = []
  · refine f tNil (fun σ H Q ⟨base, α, s, h1, R, S, P⟩ => ?_) (.inl ⟨h, rfl⟩)
    rw [hs h] at P
    exact P.same (u := []) R rfl
  · exact f _ (fun σ H Q q => q) (.inr ⟨h, ha h⟩)
theorem se_call (hr : Room k X.A) (hgd : X.A.guards = some []) (hx : Passes (L2.CX X.prog X.w) X E) (hg : Gl X x) (hdb : (x == ("__debug__" : Str)) = false) (D : DefAt X x k ps F n ks asm) (hs : es = [] → da = daNil) (ha : es ≠ [] → SA X E es da) (hkw : SKw X E kws dk)
    (hn : es.all notStar = true) (hkn : kws.all (fun k => k.arg.isSome) = true) (hks : kws.filterMap (·.arg) = ks) : SE X E (.Call (.Name x p) es kws pos) (dCall F n ks.length asm da dk) := by
  obtain ⟨f, fd, hm, hk, hF, ⟨g, gV, hb, hl, hrel⟩⟩ := D.ex
  refine pa_daNil hs ha fun t ht hpa => ?_
  refine PE.imp (pe_g hF hr hgd hg hm hk hb hx hpa hkw hn hkn hks hdb) fun σ H Q ⟨base, α, s, h, R, S, P⟩ => ?_
  refine ht _ _ _ ⟨base, α, s, h, R, S, P.bind fun us h1 α1 vs H1 x1 R1 q1 P1 => ?_⟩
  refine ⟨base, α1, s, h1, R1, x1.sl S, P1.bind fun ws h2 α2 zs H2 x2 R2 q2 P2 => ?_⟩
  split at P2
  · rename_i hz
    have e1 : vs.length = n := by rw [vs_len q1, hz.1]
    have e2 : zs.length = ks.length := by rw [vs_len q2, hz.2]
    exact ⟨e1, e2, hl vs zs e1 e2, base, α2, h2, _, R2, hrel _ _ _ _ _ _ _ e1 e2 (x2.vas q1) q2, P2⟩
  · exact P2.elim
theorem se_callP (hr : Room k X.A) (hgd : X.A.guards = some []) (hx : Passes (L2.CX X.prog X.w) X E) (hg : Gl X x) (hdb : (x == ("__debug__" : Str)) = false) (D : DefAt X x k ps F n ks asm) (hs : es = [] → da = daNil) (ha : es ≠ [] → SA X E es da) (hkw : SKw X E kws dk)
    (hn : es.all notStar = true) (hkn : kws.all (fun k => k.arg.isSome) = true) (hks : kws.filterMap (·.arg) = ks) : SE X E (.Call (.Name x p) es kws pos) (dCallP F n ks.length asm da dk) := by
  obtain ⟨f, fd, hm, hk, hF, ⟨g, gV, hb, hl, hrel⟩⟩ := D.ex
  refine pa_daNil hs ha fun t ht hpa => ?_
  refine PE.imp (pe_g hF hr hgd hg hm hk hb hx hpa hkw hn hkn hks hdb) fun σ H Q ⟨base, α, s, h, R, S, P⟩ => ?_
  refine ht _ _ _ ⟨base, α, s, h, R, S, P.bind fun us h1 α1 vs H1 x1 R1 q1 P1 => ?_⟩
  refine ⟨base, α1, s, h1, R1, x1.sl S, P1.bind fun ws h2 α2 zs H2 x2 R2 q2 P2 => ?_⟩
  split at P2
  · rename_i hz
    have e1 : vs.length = n := by rw [vs_len q1, hz.1]
    have e2 : zs.length = ks.length := by rw [vs_len q2, hz.2]
    refine ⟨e1, e2, ?_⟩
    split at P2
    · rename_i qs h3 e3
      obtain ⟨R3, x3, _, q3⟩ := gives_ok give_ok e3 R2 (hrel _ _ _ _ _ _ _ e1 e2 (x2.vas q1) q2)
      exact spF_pure R3 q3 (hl vs zs e1 e2) (Pst.step x3 P2)
    · exact P2.elim
  · exact P2.elim

/-! ### a def's body -/
def startS (n : Nat) (args : List Va) : Sl := args.map some ++ List.replicate (n - args.length) none
def fnOfB (n : Nat) (b : Sn) : Fn := fun args h => match b (startS n args) h with
  | .nx _ h' => .ok (.pv .non) h'
  | .rt v h' => .ok v h'
  | .exc c fs h' => .exc c fs h'
  | _ => .stuck
theorem repS_start {G : Gx} {av α : List Addr} {H : Hp} {args : List Va} {vs : List V} {N : List Str} (q : RepVs G av α H args vs) : RepS G av α H (startS N.length args) (start N vs) := by
  have hl := q.length
  refine ⟨by unfold startS L2.start; simp [hl], fun i v e => ?_⟩
  unfold startS at e
  have hi : i < args.length := by
    by_cases z : i < args.length
    · exact z
    · rw [List.getElem?_append_right (by simpa using z), List.getElem?_replicate] at e
      split at e <;> cases e
  rw [List.getElem?_append_left (by simpa using hi), List.getElem?_map] at e
  obtain ⟨w, e1, e2⟩ := Option.map_eq_some_iff.mp e
  cases e2
  obtain ⟨u, e3, r⟩ := q.get e1
  refine ⟨u, ?_, r⟩
  unfold L2.start
  rw [List.getElem?_append_left (by simpa using (List.getElem?_eq_some_iff.mp e3).1), List.getElem?_map, e3]; rfl
/-- the body's reading gives the def's promise -/
theorem body_rd {G : Gx} {b : Sn} {N : List Str} {m : Nat} {vs : List V} {H : Hp} {Q : VK} {E : XK} (h : spF G m (fnOfB N.length b) vs H Q E) : tN G E b { nx := fun _ H' => Q .non H', rt := Q } (start N vs) H := by
  obtain ⟨_, base, α, h0, args, R, q, P⟩ := h
  refine ⟨base, α, startS N.length args, h0, R, repS_start q, ?_⟩
  unfold fnOfB at P
  split at P
  · rename_i s' h' e
    rw [e]
    exact fun α' σ' H' x R' _ => P α' V.non H' x R' (rv_non.mpr rfl)
  · rename_i v h' e
    rw [e]
    exact P
  · rename_i c fs h' e
    rw [e]
    exact P
  · exact P.elim
end
end CI
namespace CI
open PySem PySem.Spec PyProof.Rows L2

/-! ### built-in functions -/
def dBi (f : Fn) (da : Da) : Dn := fun s h => (da s h).bind f
def CalS (X : Cx) (E : XK) (f : Fn) (r : List V → Hp → VK → Prop) : Prop := ∀ base α h H us vs Q, Rel (gx X) base α h H → RepVs (gx X) (base ++ own α h) α H us vs → Pst (gx X) E base α h H (rV (gx X)) (f us h) Q → r vs H Q
section
variable {X : Cx} {E : XK} {x : Str} {p pos : Pos} {e : Expr} {es : List Expr} {f : Fn} {da : Da} {r : List V → Hp → VK → Prop} {id T : String}
theorem bi_rd (hs : CalS X E f r) : ∀ σ H Q, tG (gx X) E (rV (gx X)) (dBi f da) σ H Q → tCB r (tG (gx X) E (rVs (gx X)) da) σ H Q := by
  intro σ H Q ⟨base, α, s, h, R, S, P⟩
  refine ⟨base, α, s, h, R, S, Pst.bind P fun us h1 α1 vs H1 x1 R1 q1 P1 => ?_⟩
  exact hs base α1 h1 H1 us vs Q R1 q1 P1
theorem se_bi (hc : CallR X (.builtin id) r) (hs : CalS X E f r) (hg : Gl X x) (hm : X.mg x = none) (hv : bootBuiltins x = some (.builtin id)) (hn : x ≠ "__name__") (hdb : (x == ("__debug__" : Str)) = false) (ha : SA X E (e :: es) da) (hst : (e :: es).all notStar = true) :
    SE X E (.Call (.Name x p) (e :: es) [] pos) (dBi f da) := by
  rw [List.all_cons, Bool.and_eq_true] at hst
  exact PE.imp (pe_callB hc hg hm hv ha hn hdb (star_cons hst.1) (star_any hst.2)) (bi_rd hs)
theorem se_biT (hc : CallR X (.type T) r) (hs : CalS X E f r) (hg : Gl X x) (hm : X.mg x = none) (hv : bootBuiltins x = some (.type T)) (hn : x ≠ "__name__") (hdb : (x == ("__debug__" : Str)) = false) (ha : SA X E (e :: es) da) (hst : (e :: es).all notStar = true) :
    SE X E (.Call (.Name x p) (e :: es) [] pos) (dBi f da) := by
  rw [List.all_cons, Bool.and_eq_true] at hst
  exact PE.imp (pe_callTy hc hg hm hv ha hn hdb (star_cons hst.1) (star_any hst.2)) (bi_rd hs)
end
section
variable {G : Gx} {av α : List Addr} {H : Hp}
theorem rvs1 {u : Va} {vs : List V} (q : RepVs G av α H [u] vs) : ∃ v, vs = [v] ∧ RepV G av α H u v := by
  obtain ⟨v, r, e, q1, q2⟩ := q
  have q2 : r = [] := q2
  exact ⟨v, by rw [e, q2], q1⟩
theorem rvs2 {u w : Va} {vs : List V} (q : RepVs G av α H [u, w] vs) : ∃ v v', vs = [v, v'] ∧ RepV G av α H u v ∧ RepV G av α H w v' := by
  obtain ⟨v, r, e, q1, q2⟩ := q
  obtain ⟨v', e2, q3⟩ := rvs1 q2
  exact ⟨v, v', by rw [e, e2], q1, q3⟩
end
def bAbs : Fn := fun vs h => match vs with
  | [.pv (.int i)] => .ok (.pv (.int i.natAbs)) h
  | _ => .stuck
def bLen : Fn := fun vs h => match vs with
  | [.pv (.str x)] => if x.length ≤ 16777216 then .ok (.pv (.int x.length)) h else .stuck
  | [v] => match rdl h v with
    | some xs => .ok (.pv (.int xs.length)) h
    | none => .stuck
  | _ => .stuck
def bMax2 : Fn := fun vs h => match vs with
  | [.pv (.int i), .pv (.int j)] => .ok (.pv (.int (max i j))) h
  | _ => .stuck
def bMin2 : Fn := fun vs h => match vs with
  | [.pv (.int i), .pv (.int j)] => .ok (.pv (.int (min i j))) h
  | _ => .stuck
/-- ints alone -/
def intsOf : List Va → Option (List Int)
  | [] => some []
  | .pv (.int i) :: r => (intsOf r).map (i :: ·)
  | _ :: _ => none
theorem intsOf_eq : ∀ {vs : List Va} {ns : List Int}, intsOf vs = some ns → vs = ns.map fun n => .pv (.int n)
  | [], ns, e => by cases e; rfl
  | .pv (.int i) :: r, ns, e => by
    unfold intsOf at e
    obtain ⟨qs, e1, e2⟩ := Option.map_eq_some_iff.mp e
    rw [← e2, intsOf_eq e1]; rfl
  | .ref _ :: _, _, e => by cases e
  | .pv .non :: _, _, e => by cases e
  | .pv (.bl _) :: _, _, e => by cases e
  | .pv (.str _) :: _, _, e => by cases e
  | .pv (.tup _) :: _, _, e => by cases e
  | .pv (.lst _) :: _, _, e => by cases e
  | .pv (.ins _ _) :: _, _, e => by cases e
  | .pv (.fn _) :: _, _, e => by cases e
  | .pv (.ty _) :: _, _, e => by cases e
  | .pv (.scr _) :: _, _, e => by cases e
theorem intsOf_map (ns : List Int) : intsOf (ns.map fun n => .pv (.int n)) = some ns := by
  induction ns with
  | nil => rfl
  | cons n ns ih => show (intsOf (ns.map fun n => .pv (.int n))).map (n :: ·) = _; rw [ih]; rfl
theorem repVs_ints {G : Gx} {av α : List Addr} {H : Hp} {ns : List Int} {vs : List V} : RepVs G av α H (ns.map fun n => .pv (.int n)) vs ↔ vs = ns.map V.int := by
  have e : (ns.map fun n => Va.pv (.int n)) = (ns.map Pv.int).map Va.pv := by rw [List.map_map]; rfl
  rw [e, repVs_pv, repPs_ints]
/-- a list (no tuple) of ints, read -/
def lstInts (h : Hh) (v : Va) : Option (List Int) := match v with
  | .pv (.lst ps) => intsOf (ps.map .pv)
  | .pv (.scr ns) => some ns
  | .ref r => match h[r]? with
    | some (.lst xs) => intsOf xs
    | some (.frz (.lst ps)) => intsOf (ps.map .pv)
    | _ => none
  | _ => none
theorem lstInts_ok {G : Gx} {base α : List Addr} {h : Hh} {H : Hp} (R : Rel G base α h H) {v : Va} {u : V} {ns : List Int} (r : RepV G (base ++ own α h) α H v u) (e : lstInts h v = some ns) : ∃ a, u = .ref a ∧ SqL G.K H a (ns.map V.int) := by
  have lst : ∀ (ps : List Pv) (u : V), RepP G (base ++ own α h) H (.lst ps) u → intsOf (ps.map .pv) = some ns → ∃ a, u = .ref a ∧ SqL G.K H a (ns.map V.int) := by
    intro ps u r e
    obtain ⟨a, vs, e1, t, q⟩ := repP_lst.mp r
    have q2 := repVs_pv (α := α).mpr q
    rw [intsOf_eq e] at q2
    rw [repVs_ints.mp q2] at t
    exact ⟨a, e1, t.sq⟩
  unfold lstInts at e
  split at e
  · exact lst _ u r e
  · cases e
    obtain ⟨a, e1, t⟩ := rv_scr.mp r
    exact ⟨a, e1, t.sq⟩
  · obtain ⟨a, ea, rfl⟩ := r
    split at e
    · rename_i q
      obtain ⟨vs, e1, q1⟩ := R.obs _ _ _ ea q
      rw [intsOf_eq e] at q1
      rw [repVs_ints.mp q1] at e1
      exact ⟨a, rfl, SqL.of e1⟩
    · rename_i q
      exact lst _ _ (R.obs _ _ _ ea q) e
    · cases e
  · cases e
def maxI : List Int → Int
  | [] => 0
  | [x] => x
  | x :: y :: r => max x (maxI (y :: r))
def minI : List Int → Int
  | [] => 0
  | [x] => x
  | x :: y :: r => min x (minI (y :: r))
theorem maxI_mem : ∀ {ns : List Int}, ns ≠ [] → maxI ns ∈ ns ∧ ∀ y ∈ ns, y ≤ maxI ns
  | [], h => absurd rfl h
  | [x], _ => ⟨List.mem_singleton.mpr rfl, fun y hy => by rw [List.mem_singleton.mp hy]; exact Int.le_refl _⟩
  | x :: y :: r, _ => by
    obtain ⟨h1, h2⟩ := maxI_mem (ns := y :: r) (by simp)
    rw [maxI]
    refine ⟨?_, fun z hz => ?_⟩
    · by_cases q : x ≤ maxI (y :: r)
      · rw [Int.max_eq_right q]; exact List.mem_cons_of_mem _ h1
      · rw [Int.max_eq_left (by omega)]; exact List.mem_cons_self
    · rcases List.mem_cons.mp hz with e | hz
      · rw [e]; omega
      · have := h2 z hz; omega
theorem minI_mem : ∀ {ns : List Int}, ns ≠ [] → minI ns ∈ ns ∧ ∀ y ∈ ns, minI ns ≤ y
  | [], h => absurd rfl h
  | [x], _ => ⟨List.mem_singleton.mpr rfl, fun y hy => by rw [List.mem_singleton.mp hy]; exact Int.le_refl _⟩
  | x :: y :: r, _ => by
    obtain ⟨h1, h2⟩ := minI_mem (ns := y :: r) (by simp)
    rw [minI]
    refine ⟨?_, fun z hz => ?_⟩
    · by_cases q : x ≤ minI (y :: r)
      · rw [Int.min_eq_left q]; exact List.mem_cons_self
      · rw [Int.min_eq_right (by omega)]; exact List.mem_cons_of_mem _ h1
    · rcases List.mem_cons.mp hz with e | hz
      · rw [e]; omega
      · have := h2 z hz; omega
def bMax1 : Fn := fun vs h => match vs with
  | [v] => match lstInts h v with
    | some ns => if ns.isEmpty then .stuck else .ok (.pv (.int (maxI ns))) h
    | none => .stuck
  | _ => .stuck
def bMin1 : Fn := fun vs h => match vs with
  | [v] => match lstInts h v with
    | some ns => if ns.isEmpty then .stuck else .ok (.pv (.int (minI ns))) h
    | none => .stuck
  | _ => .stuck
def bSum : Fn := fun vs h => match vs with
  | [v] => match lstInts h v with
    | some ns => .ok (.pv (.int ns.sum)) h
    | none => .stuck
  | _ => .stuck
def bInt : Fn := fun vs h => match vs with
  | [.pv (.int i)] => .ok (.pv (.int i)) h
  | [.pv (.bl b)] => .ok (.pv (.int (if b then 1 else 0))) h
  | _ => .stuck
def bDivmod : Fn := fun vs h => match vs with
  | [.pv (.int i), .pv (.int j)] => if divOk j then .ok (.pv (.tup [.int (i.fdiv j), .int (i.fmod j)])) h else .stuck
  | _ => .stuck
def showOk (d : PyData) : Bool := d.showable && !d.hasDict && decide (d.depth ≤ 50) && decide (d.shown.length ≤ 16777216)
def bRepr : Fn := fun vs h => match vs with
  | [v] => match datOf h v with
    | some d => if showOk d then .ok (.pv (.str d.shown)) h else .stuck
    | none => .stuck
  | _ => .stuck
def bStr : Fn := fun vs h => match vs with
  | [.pv (.int i)] => if i.natAbs.log2 < 1920 then .ok (.pv (.str (toString i))) h else .stuck
  | [.pv (.str x)] => .ok (.pv (.str x)) h
  | _ => .stuck
/-- truths alone -/
def blsOf : List Va → Option (List Bool)
  | [] => some []
  | .pv (.bl i) :: r => (blsOf r).map (i :: ·)
  | _ :: _ => none
theorem blsOf_ok {G : Gx} {av α : List Addr} {H : Hp} : ∀ {vs : List Va} {ns : List Bool} {us : List V}, blsOf vs = some ns → RepVs G av α H vs us → us = ns.map V.bl
  | [], ns, us, e, q => by cases e; exact q
  | v :: r, ns, us, e, q => by
    obtain ⟨u, w, e1, q1, q2⟩ := q
    unfold blsOf at e
    split at e
    · rename_i hv; cases hv
    · rename_i i r' hv
      injection hv with e3 e4
      subst e3 e4
      obtain ⟨qs, e5, e6⟩ := Option.map_eq_some_iff.mp e
      rw [← e6, e1, rv_bl.mp q1, blsOf_ok e5 q2]; rfl
    · cases e
def bAll : Fn := fun vs h => match vs with
  | [.pv (.lst ps)] => match blsOf (ps.map .pv) with
    | some bs => .ok (.pv (.bl (bs.all id))) h
    | none => .stuck
  | _ => .stuck
def bAny : Fn := fun vs h => match vs with
  | [.pv (.lst ps)] => match blsOf (ps.map .pv) with
    | some bs => .ok (.pv (.bl (bs.any id))) h
    | none => .stuck
  | _ => .stuck
/-- tuple(x), list(x): of what is given over -/
def itemsOf : Pv → Option (List Pv)
  | .lst ps => some ps
  | .tup ps => some ps
  | .scr ns => some (ns.map .int)
  | _ => none
def bTuple : Fn := fun vs h => match vs with
  | [v] => match give v h with
    | some (.lst ps, h1) => .ok (.pv (.tup ps)) h1
    | some (.tup ps, h1) => .ok (.pv (.tup ps)) h1
    | _ => .stuck
  | _ => .stuck
def bList : Fn := fun vs h => match vs with
  | [v] => match rdl h v with
    | some xs => match allPv xs with
      | some ps => .ok (.pv (.lst ps)) h
      | none => .stuck
    | none => .stuck
  | _ => .stuck
section
variable {X : Cx} {E : XK}
theorem cs_abs : CalS X E bAbs (fun xs H Q => ∃ i, xs = [.int i] ∧ Q (.int (if i < 0 then -i else i)) H) := by
  intro base α h H us vs Q R q P
  unfold bAbs at P
  split at P
  · rename_i i
    obtain ⟨v, e, q1⟩ := rvs1 q
    rw [rv_int.mp q1] at e
    refine ⟨i, e, ?_⟩
    have : (if i < 0 then -i else i) = (i.natAbs : Int) := by split <;> omega
    rw [this]
    exact P.same R (rv_int.mpr rfl)
  · exact P.elim
theorem cs_len : CalS X E bLen (fun xs H Q => ∃ x n, xs = [x] ∧ LenV X.K x H n ∧ Q (.int n) H) := by
  intro base α h H us vs Q R q P
  unfold bLen at P
  split at P
  · obtain ⟨v, e, q1⟩ := rvs1 q
    rw [rv_str.mp q1] at e
    split at P
    · rename_i x hx
      exact ⟨_, _, e, ⟨by rw [sizeLine_eq]; exact hx, rfl⟩, P.same R (rv_int.mpr rfl)⟩
    · exact P.elim
  · obtain ⟨v, e, q1⟩ := rvs1 q
    split at P
    · rename_i xs hxs
      obtain ⟨a, ws, e2, t, q2⟩ := rdl_ok R q1 hxs
      subst e2
      refine ⟨_, xs.length, e, ?_, P.same R (rv_int.mpr rfl)⟩
      rcases t with t | t
      · exact .inl ⟨ws, t, q2.length⟩
      · exact .inr ⟨ws, t, q2.length⟩
    · exact P.elim
  · exact P.elim
theorem cs_max2 : CalS X E bMax2 (fun xs H Q => ∃ i j, xs = [.int i, .int j] ∧ Q (.int (if j > i then j else i)) H) := by
  intro base α h H us vs Q R q P
  unfold bMax2 at P
  split at P
  · rename_i i j
    obtain ⟨v, w, e, q1, q2⟩ := rvs2 q
    rw [rv_int.mp q1, rv_int.mp q2] at e
    refine ⟨i, j, e, ?_⟩
    rw [show (if j > i then j else i) = max i j by split <;> omega]
    exact P.same R (rv_int.mpr rfl)
  · exact P.elim
theorem cs_min2 : CalS X E bMin2 (fun xs H Q => ∃ i j, xs = [.int i, .int j] ∧ Q (.int (if j < i then j else i)) H) := by
  intro base α h H us vs Q R q P
  unfold bMin2 at P
  split at P
  · rename_i i j
    obtain ⟨v, w, e, q1, q2⟩ := rvs2 q
    rw [rv_int.mp q1, rv_int.mp q2] at e
    refine ⟨i, j, e, ?_⟩
    rw [show (if j < i then j else i) = min i j by split <;> omega]
    exact P.same R (rv_int.mpr rfl)
  · exact P.elim
theorem len_pos {ns : List Int} (h : ¬ ns.isEmpty = true) : 0 < ns.length ∧ ns ≠ [] := by
  cases ns with
  | nil => exact absurd rfl h
  | cons _ _ => exact ⟨by simp, by simp⟩
theorem cs_max1 : CalS X E bMax1 (rMax X.K) := by
  intro base α h H us vs Q R q P
  unfold bMax1 at P
  split at P
  · obtain ⟨v, e, q1⟩ := rvs1 q
    split at P
    · rename_i ns hns
      split at P
      · exact P.elim
      · rename_i hne
        obtain ⟨a, e2, t⟩ := lstInts_ok R q1 hns
        obtain ⟨l1, l2⟩ := len_pos hne
        refine ⟨a, ns, by rw [e, e2], t, l1, fun m hm hle => ?_⟩
        obtain ⟨m1, m2⟩ := maxI_mem l2
        have : m = maxI ns := Int.le_antisymm (m2 m hm) (hle _ m1)
        rw [this]
        exact P.same R (rv_int.mpr rfl)
    · exact P.elim
  · exact P.elim
theorem cs_min1 : CalS X E bMin1 (rMin X.K) := by
  intro base α h H us vs Q R q P
  unfold bMin1 at P
  split at P
  · obtain ⟨v, e, q1⟩ := rvs1 q
    split at P
    · rename_i ns hns
      split at P
      · exact P.elim
      · rename_i hne
        obtain ⟨a, e2, t⟩ := lstInts_ok R q1 hns
        obtain ⟨l1, l2⟩ := len_pos hne
        refine ⟨a, ns, by rw [e, e2], t, l1, fun m hm hle => ?_⟩
        obtain ⟨m1, m2⟩ := minI_mem l2
        have : m = minI ns := Int.le_antisymm (hle _ m1) (m2 m hm)
        rw [this]
        exact P.same R (rv_int.mpr rfl)
    · exact P.elim
  · exact P.elim
theorem cs_sum : CalS X E bSum (rSum X.K) := by
  intro base α h H us vs Q R q P
  unfold bSum at P
  split at P
  · obtain ⟨v, e, q1⟩ := rvs1 q
    split at P
    · rename_i ns hns
      obtain ⟨a, e2, t⟩ := lstInts_ok R q1 hns
      exact ⟨a, ns, by rw [e, e2], t, P.same R (rv_int.mpr rfl)⟩
    · exact P.elim
  · exact P.elim
theorem cs_int : CalS X E bInt (fun xs H Q => (∃ i, xs = [.int i] ∧ Q (.int i) H) ∨ ∃ k, xs = [.bl k] ∧ Q (.int (if k then 1 else 0)) H) := by
  intro base α h H us vs Q R q P
  unfold bInt at P
  split at P
  · obtain ⟨v, e, q1⟩ := rvs1 q
    rw [rv_int.mp q1] at e
    exact .inl ⟨_, e, P.same R (rv_int.mpr rfl)⟩
  · obtain ⟨v, e, q1⟩ := rvs1 q
    rw [rv_bl.mp q1] at e
    exact .inr ⟨_, e, P.same R (rv_int.mpr rfl)⟩
  · exact P.elim
def rDivmod : List V → Hp → VK → Prop := fun xs H Q => ∃ i j, xs = [.int i, .int j] ∧ divOk j = true ∧ ∀ p, H p = none → Q (.ref p) (upd H p (.tup [.int (i.fdiv j), .int (i.fmod j)]))
theorem call_divmodG : CallR X (.builtin "divmod") rDivmod := by
  intro pins s σ H xs us Q I r hq
  obtain ⟨i, j, rfl, hd, q⟩ := hq
  obtain ⟨u, u', rfl, ⟨t, rfl⟩, ⟨t', rfl⟩⟩ := vals2 r
  unfold divOk at hd
  simp only [Bool.and_eq_true, decide_eq_true_eq] at hd
  have hn : H s.heap.objs.size = none := I.hok.fresh (Nat.le_refl _)
  have hobj : ObjOk X.prog X.w (upd H s.heap.objs.size (.tup [.int (i.fdiv j), .int (i.fmod j)])) (s.heap.push { cls := .type "tuple", data := .seq [Value.int (i.fdiv j) s.toks, .int (i.fmod j) (s.toks + 1)].toArray }) s.heap.objs.size (.tup [.int (i.fdiv j), .int (i.fmod j)]) :=
    ⟨by rw [sizeLine_eq]; show (2 : Nat) ≤ 16777216; decide, [.int (i.fdiv j) s.toks, .int (i.fmod j) (s.toks + 1)], .cons ⟨_, rfl⟩ (.cons ⟨_, rfl⟩ .nil), ⟨_, Heap.get?_push_size s.heap rfl, rfl, 0, rfl⟩⟩
  exact divmod_int hd.1 ⟨.ref s.heap.objs.size, _, I.laid (fun b o e => Heap.get?_push_of_some _ e) (Nat.le_refl _) hobj, rfl, q _ hn⟩ (.inl (PyProof.noPylong_of_log2 hd.2))
theorem cs_divmod : CalS X E bDivmod rDivmod := by
  intro base α h H us vs Q R q P
  unfold bDivmod at P
  split at P
  · rename_i i j
    obtain ⟨v, w, e, q1, q2⟩ := rvs2 q
    rw [rv_int.mp q1, rv_int.mp q2] at e
    split at P
    · rename_i hd
      refine ⟨i, j, e, hd, fun p np => P.new R np fun ev na => rv_tup.mpr ⟨p, _, rfl, .inl ⟨.inl upd_same, na⟩, ?_⟩⟩
      exact repPs_cons.mpr ⟨_, _, rfl, repP_int.mpr rfl, .one (repP_int.mpr rfl)⟩
    · exact P.elim
  · exact P.elim
def rRepr (K : PySem.W.Frag) : List V → Hp → VK → Prop := fun xs H Q => ∃ x d, xs = [x] ∧ Dp K H x d ∧ showOk d = true ∧ Q (.str d.shown) H
theorem call_reprG (hg : X.A.guards = some []) (hu : X.A.units + 60 < cLine) : CallR X (.builtin "repr") (rRepr X.K) := by
  intro pins s σ H xs us Q I r hq
  obtain ⟨x, d, rfl, hd, ho, q⟩ := hq
  obtain ⟨u, rfl, ru⟩ := vals1 r
  obtain ⟨as, rd⟩ := Dp.reads I d x u hd ru
  unfold showOk at ho
  simp only [Bool.and_eq_true, decide_eq_true_eq, Bool.not_eq_true'] at ho
  obtain ⟨⟨⟨h1, h2⟩, h3⟩, h4⟩ := ho
  have hl : d.shown.length ≤ sizeLine := by rw [sizeLine_eq]; exact h4
  have go : ∀ a, u = .ref a → wpAny (model X.prog X.w) X.A (call (.builtin "repr") [u]) (EP X pins σ Q) X.xe s := by
    rintro a rfl
    exact repr_of_reads' rd h1 (fun z => by rw [h2] at z; cases z) hg (by omega) (fun b o e => e) (fun h' t tk k => ⟨.str d.shown, H, I.kept k, ⟨_, rfl⟩, q⟩) hl
  cases hd with
  | non => cases ru; exact PySem.P.repr_of_none ⟨.str _, H, I.tok _, ⟨_, rfl⟩, q⟩
  | bl b => cases ru; exact PySem.P.repr_of_bool ⟨.str _, H, I.tok _, ⟨_, rfl⟩, q⟩
  | int i =>
    obtain ⟨t, rfl⟩ := ru
    exact PySem.P.repr_of_int (of_decide_eq_true h1) ⟨.str _, H, I.tok _, ⟨_, rfl⟩, q⟩
  | str y =>
    obtain ⟨t, rfl⟩ := ru
    exact PySem.P.repr_of_str ⟨.str _, H, I.tok _, ⟨_, rfl⟩, q⟩ hl
  | lst _ _ => exact go _ ru
  | tup _ _ => exact go _ ru
theorem cs_repr : CalS X E bRepr (rRepr X.K) := by
  intro base α h H us vs Q R q P
  unfold bRepr at P
  split at P
  · obtain ⟨v, e, q1⟩ := rvs1 q
    split at P
    · rename_i d hd
      split at P
      · rename_i ho
        exact ⟨v, d, e, datOf_ok R q1 hd, ho, P.same R (rv_str.mpr rfl)⟩
      · exact P.elim
    · exact P.elim
  · exact P.elim
theorem cs_str : CalS X E bStr (fun xs H Q => (∃ i, xs = [.int i] ∧ i.natAbs.log2 < 1920 ∧ Q (.str (toString i)) H) ∨ ∃ a, xs = [.str a] ∧ Q (.str a) H) := by
  intro base α h H us vs Q R q P
  unfold bStr at P
  split at P
  · obtain ⟨v, e, q1⟩ := rvs1 q
    rw [rv_int.mp q1] at e
    split at P
    · rename_i hi
      exact .inl ⟨_, e, hi, P.same R (rv_str.mpr rfl)⟩
    · exact P.elim
  · obtain ⟨v, e, q1⟩ := rvs1 q
    rw [rv_str.mp q1] at e
    exact .inr ⟨_, e, P.same R (rv_str.mpr rfl)⟩
  · exact P.elim
theorem call_strG : CallR X (.type "str") (fun xs H Q => (∃ i, xs = [.int i] ∧ i.natAbs.log2 < 1920 ∧ Q (.str (toString i)) H) ∨ ∃ a, xs = [.str a] ∧ Q (.str a) H) := CallR.or call_str_int SkE.call_str_str
theorem cs_all : CalS X E bAll (fun xs H Q => ∃ (a : Addr) (bs : List Bool), xs = [V.ref a] ∧ SqL X.K H a (bs.map V.bl) ∧ Q (.bl (bs.all id)) H) := by
  intro base α h H us vs Q R q P
  unfold bAll at P
  split at P
  · rename_i ps
    obtain ⟨v, e, q1⟩ := rvs1 q
    split at P
    · rename_i bs hb
      obtain ⟨a, ws, e1, t, q2⟩ := rv_lst.mp q1
      rw [blsOf_ok hb (repVs_pv (α := α).mpr q2)] at t
      exact ⟨a, bs, by rw [e, e1], t.sq, P.same R (rv_bl.mpr rfl)⟩
    · exact P.elim
  · exact P.elim
theorem cs_any : CalS X E bAny (fun xs H Q => ∃ (a : Addr) (bs : List Bool), xs = [V.ref a] ∧ SqL X.K H a (bs.map V.bl) ∧ Q (.bl (bs.any id)) H) := by
  intro base α h H us vs Q R q P
  unfold bAny at P
  split at P
  · rename_i ps
    obtain ⟨v, e, q1⟩ := rvs1 q
    split at P
    · rename_i bs hb
      obtain ⟨a, ws, e1, t, q2⟩ := rv_lst.mp q1
      rw [blsOf_ok hb (repVs_pv (α := α).mpr q2)] at t
      exact ⟨a, bs, by rw [e, e1], t.sq, P.same R (rv_bl.mpr rfl)⟩
    · exact P.elim
  · exact P.elim
theorem cs_tuple : CalS X E bTuple (fun xs H Q => ∃ p ys, xs = [.ref p] ∧ ((SqL X.K H p ys ∧ ∀ l, H l = none → Q (.ref l) (upd H l (.tup ys))) ∨ (SqT X.K H p ys ∧ Q (.ref p) H))) := by
  intro base α h H us vs Q R q P
  unfold bTuple at P
  split at P
  · obtain ⟨v, e, q1⟩ := rvs1 q
    split at P
    · rename_i ps h1 eg
      obtain ⟨R1, x1, _, q2⟩ := give_ok _ _ _ _ _ _ _ _ _ eg R q1
      obtain ⟨a, ws, e1, t, q3⟩ := repP_lst.mp q2
      refine ⟨a, ws, by rw [e, e1], .inl ⟨t.sq, fun l nl => P.gave x1 R1 nl fun ev na => rv_tup.mpr ⟨l, ws, rfl, .inl ⟨.inl upd_same, na⟩, ev.pvs (G := gx X) q3⟩⟩⟩
    · rename_i ps h1 eg
      obtain ⟨R1, x1, _, q2⟩ := give_ok _ _ _ _ _ _ _ _ _ eg R q1
      obtain ⟨a, ws, e1, t, q3⟩ := repP_tup.mp q2
      rw [e1] at e q2
      exact ⟨a, ws, e, .inr ⟨t.sq, P α _ _ x1 R1 q2⟩⟩
    · exact P.elim
  · exact P.elim
theorem cs_list : CalS X E bList (fun xs H Q => ∃ p ys, xs = [.ref p] ∧ (SqL X.K H p ys ∨ SqT X.K H p ys) ∧ ∀ l, H l = none → Q (.ref l) (upd H l (.lst ys))) := by
  intro base α h H us vs Q R q P
  unfold bList at P
  split at P
  · obtain ⟨v, e, q1⟩ := rvs1 q
    split at P
    · rename_i xs hxs
      split at P
      · rename_i ps hp
        obtain ⟨a, ws, e2, t, q2⟩ := rdl_ok R q1 hxs
        rw [allPv_eq hp] at q2
        refine ⟨a, ws, by rw [e, e2], t, fun l nl => P.new R nl fun ev na => rv_lst.mpr ⟨l, ws, rfl, ⟨.inl upd_same, na⟩, ev.pvs (G := gx X) (repVs_pv.mp q2)⟩⟩
      · exact P.elim
    · exact P.elim
  · exact P.elim

/-! ### isinstance(x, T), T a built-in type -/
def tyName : Va → Option String
  | .pv .non => some "NoneType"
  | .pv (.bl _) => some "bool"
  | .pv (.int _) => some "int"
  | .pv (.str _) => some "str"
  | .pv (.tup _) => some "tuple"
  | .pv (.lst _) => some "list"
  | _ => none
def isiTab (a b : String) : Option Bool :=
  if b = "int" then (if a = "int" ∨ a = "bool" then some true else some false)
  else if b = "bool" ∨ b = "str" ∨ b = "tuple" ∨ b = "list" then some (decide (a = b)) else none
theorem isiTab_ok {v : Va} {a b : String} {r : Bool} (ha : tyName v = some a) (h : isiTab a b = some r) : kitB a b = some r := by
  have hb : b = "int" ∨ b = "bool" ∨ b = "str" ∨ b = "tuple" ∨ b = "list" := by
    unfold isiTab at h
    split at h
    · exact .inl (by assumption)
    · split at h
      · rename_i q; exact .inr q
      · cases h
  have hA : a = "NoneType" ∨ a = "bool" ∨ a = "int" ∨ a = "str" ∨ a = "tuple" ∨ a = "list" := by
    unfold tyName at ha
    split at ha <;> first | (cases ha; simp; done) | cases ha
  rw [← h]
  rcases hA with rfl | rfl | rfl | rfl | rfl | rfl <;> rcases hb with rfl | rfl | rfl | rfl | rfl <;> decide +kernel
theorem tyName_ok {base α : List Addr} {h : Hh} {H : Hp} {v : Va} {u : V} {a : String} (r : RepV (gx X) (base ++ own α h) α H v u) (e : tyName v = some a) : TyX X.K H u (.type a) := by
  unfold tyName at e
  split at e <;> first | (cases e; done) | skip
  all_goals cases e
  · rw [rv_non.mp r]; exact .base .non
  · rw [rv_bl.mp r]; exact .base (.bl _)
  · rw [rv_int.mp r]; exact .base (.int _)
  · rw [rv_str.mp r]; exact .base (.str _)
  · obtain ⟨a, vs, e, t, _⟩ := rv_tup.mp r
    rw [e]
    rcases t with ⟨t | ⟨o, t⟩, _⟩ | ⟨o, its, n, t, c, _⟩
    · exact .base (.tup t)
    · exact .fTuple t
    · exact .kTuple t c
  · obtain ⟨a, vs, e, t, _⟩ := rv_lst.mp r
    rw [e]
    rcases t with ⟨t | ⟨o, t⟩, _⟩
    · exact .base (.lst t)
    · exact .base (.frz t)
def bIsi : Fn := fun vs h => match vs with
  | [v, .pv (.ty T)] => match tyName v with
    | some a => match isiTab a T with
      | some b => .ok (.pv (.bl b)) h
      | none => .stuck
    | none => .stuck
  | _ => .stuck
theorem cs_isi : CalS X E bIsi (rIsi X.K) := by
  intro base α h H us vs Q R q P
  unfold bIsi at P
  split at P
  · rename_i v T
    obtain ⟨y, w, e, q1, q2⟩ := rvs2 q
    rw [rv_ty.mp q2] at e
    split at P
    · rename_i a ha
      split at P
      · rename_i b hb
        exact ⟨y, .ty T, .type a, .type T, b, e, .ty T, tyName_ok q1 ha, kit_ty (isiTab_ok ha hb), P.same R (rv_bl.mpr rfl)⟩
      · exact P.elim
    · exact P.elim
  · exact P.elim
end
end CI
namespace CI
open PySem PySem.Spec PyProof.Rows L2

/-! ### a list that will be changed -/
theorem own_append {ob : Ob} {p : Addr} : ∀ {α : List Addr} {h : Hh}, α.length = h.length → own (α ++ [p]) (h ++ [ob]) = own α h ++ (if ob.isFrz then [] else [p])
  | [], [], _ => by
    simp only [List.nil_append, own]
  | a :: α, [], e => by cases e
  | [], o :: h, e => by cases e
  | a :: α, o :: h, e => by
    have ih := own_append (ob := ob) (p := p) (α := α) (h := h) (by simpa using e)
    simp only [List.cons_append, own, ih]
    split <;> simp
theorem Rel.alloc {G : Gx} {base α : List Addr} {h : Hh} {H : Hp} {p : Addr} {ob : Ob} {o : HO} (R : Rel G base α h H) (np : H p = none)
    (q : Evo α h H (α ++ [p]) (h ++ [ob]) (upd H p o) → RepO G (base ++ own (α ++ [p]) (h ++ [ob])) (α ++ [p]) (upd H p o) p ob) :
    Rel G base (α ++ [p]) (h ++ [ob]) (upd H p o) ∧ Evo α h H (α ++ [p]) (h ++ [ob]) (upd H p o) := by
  have ne : ∀ {b u}, H b = some u → b ≠ p := fun e => ne_of_none e np
  have oe := own_append (ob := ob) (p := p) R.len
  have ev : Evo α h H (α ++ [p]) (h ++ [ob]) (upd H p o) := by
    refine ⟨⟨[p], rfl⟩, fun a u e _ => by rw [upd_ne (ne e)]; exact e, fun a m => ?_⟩
    rw [oe] at m
    rcases List.mem_append.mp m with m | m
    · exact .inl m
    · split at m
      · cases m
      · rw [List.mem_singleton.mp m]; exact .inr np
  have up : ∀ {b}, H b ≠ none → upd H p o b ≠ none := fun {b} this => by
    by_cases z : b = p
    · rw [z, upd_same]; exact fun q => nomatch q
    · rw [upd_ne z]; exact this
  refine ⟨⟨by rw [List.length_append, List.length_append, R.len]; rfl, ?_, fun a m => ?_, fun a m => up (R.bas a m), fun a m => ?_, fun r a x e1 e2 => ?_⟩, ev⟩
  · rw [List.nodup_append]
    exact ⟨R.nd, by simp, fun a ha b hb => by rw [List.mem_singleton.mp hb]; exact fun z => R.trk a ha (by rw [z]; exact np)⟩
  · rw [oe] at m
    rcases List.mem_append.mp m with m | m
    · exact R.dis a m
    · split at m
      · cases m
      · rw [List.mem_singleton.mp m]; exact fun z => R.bas p z np
  · rcases List.mem_append.mp m with m | m
    · exact up (R.trk a m)
    · rw [List.mem_singleton.mp m, upd_same]; exact fun q => nomatch q
  · by_cases hr : r < α.length
    · rw [List.getElem?_append_left hr] at e1
      rw [List.getElem?_append_left (by rw [← R.len]; exact hr)] at e2
      exact RepO.stay ev (fun hf => upd_ne fun z => R.tracked (mem_own.mpr ⟨r, x, e1, e2, hf⟩) (by rw [z]; exact np)) (R.obs r a x e1 e2)
    · have : r = α.length := by
        have := (List.getElem?_eq_some_iff.mp e1).1
        rw [List.length_append] at this
        simp at this
        omega
      subst this
      rw [List.getElem?_append_right (Nat.le_refl _), Nat.sub_self] at e1
      rw [List.getElem?_append_right (by rw [R.len]; exact Nat.le_refl _), R.len, Nat.sub_self] at e2
      have e1 : some p = some a := e1
      have e2 : some ob = some x := e2
      cases e1
      cases e2
      exact q ev
def dLstM (da : Da) : Dn := fun s h => (da s h).bind fun vs h1 => if vs.length ≤ 16777216 then .ok (.ref h1.length) (h1 ++ [.lst vs]) else .stuck
section
variable {X : Cx} {E : XK}
theorem se_lstM {es : List Expr} {da : Da} {pos : Pos} (ha : SA X E es da) : SE X E (.List es pos) (dLstM da) := by
  refine PE.imp (pe_lst ha) fun σ H Q ⟨base, α, s, h, R, S, P⟩ => ?_
  refine ⟨base, α, s, h, R, S, Pst.bind P fun vs h1 α1 us H1 x1 R1 q1 P1 => ?_⟩
  split at P1
  · rename_i hl
    refine ⟨by rw [← q1.length, sizeLine_eq]; exact hl, fun p np => ?_⟩
    obtain ⟨R2, x2⟩ := R1.alloc (ob := .lst vs) (o := .lst us) np fun ev => ⟨us, upd_same, ev.vas (G := gx X) q1⟩
    exact P1 _ _ _ x2 R2 ⟨p, by rw [List.getElem?_append_right (by rw [R1.len]; exact Nat.le_refl _), R1.len, Nat.sub_self]; rfl, rfl⟩
  · exact P1.elim
end
end CI
namespace CI
open PySem PySem.Spec PyProof.Rows L2

/-! ### {k: v, ..}: a new dict -/
def pairsV : List (Dn × Dn) → Sl → Hh → Res (List (Key × Va))
  | [], _, h => .ok [] h
  | (dk, dv) :: r, s, h => (dk s h).bind fun x h1 => (dv s h1).bind fun y h2 => (pairsV r s h2).bind fun l h3 => match keyOf x with
    | some k => .ok ((k, y) :: l) h3
    | none => .stuck
def mergeV (kvs more : List (Key × Va)) : List (Key × Va) := more.foldl (fun acc kv => putV acc kv.1 kv.2) kvs
theorem fv_merge {G : Gx} {av α : List Addr} {H : Hp} : ∀ {more : List (Key × Va)} {ms : List (Key × V)} {kvs : List (Key × Va)} {ks : List (Key × V)}, RepFV G av α H more ms → RepFV G av α H kvs ks → RepFV G av α H (mergeV kvs more) (mergeK ks ms)
  | [], _, _, _, h, q => by cases h; exact q
  | p :: r, _, _, _, h, q => by
    obtain ⟨v, w, rfl, q1, q2⟩ := h
    show RepFV G av α H (mergeV (putV _ p.1 p.2) r) (mergeK (putK _ p.1 v) w)
    exact fv_merge (more := r) (ms := w) q2 (fv_put q1 q)
def dDic (ps : List (Dn × Dn)) : Dn := fun s h => (pairsV ps s (h ++ [.dct []])).bind fun kvs h2 => match h2[h.length]? with
  | some (.dct []) => if kvs.length ≤ 15 then .ok (.ref h.length) (h2.set h.length (.dct (mergeV [] kvs))) else .stuck
  | _ => .stuck
section
variable {X : Cx} {E : XK}
abbrev trsOf (G : Gx) (E : XK) (ps : List (Dn × Dn)) : List (TE × TE) := ps.map fun q => (tG G E (rV G) q.1, tG G E (rV G) q.2)
/-- pairs by their keys' values -/
def repKV (G : Gx) : Rp (List (Key × Va)) (List (V × V)) := fun av α H l vs => ∃ m : List (Key × V), vs = m.map (fun kv => (kV kv.1, kv.2)) ∧ RepFV G av α H l m
theorem pairs_rd {G : Gx} {base : List Addr} {s : Sl} {σ : L2.St} : ∀ {ps : List (Dn × Dn)} {α : List Addr} {h : Hh} {H : Hp} {Q : List (V × V) → Hp → Prop}, Rel G base α h H → RepS G (base ++ own α h) α H s σ →
    Pst G E base α h H (repKV G) (pairsV ps s h) Q → tPairs (trsOf G E ps) σ H Q
  | [], α, h, H, Q, R, S, P => P.same (u := []) R ⟨[], rfl, rfl⟩
  | (dk, dv) :: r, α, h, H, Q, R, S, P => by
    refine ⟨base, α, s, h, R, S, Pst.bind P fun x h1 α1 u H1 x1 R1 q1 P1 => ?_⟩
    refine ⟨base, α1, s, h1, R1, x1.sl S, P1.bind fun y h2 α2 w H2 x2 R2 q2 P2 => ?_⟩
    refine pairs_rd (ps := r) R2 (x2.sl (x1.sl S)) (P2.bind fun l h3 α3 vs H3 x3 R3 q3 P3 => ?_)
    split at P3
    · rename_i k hk
      obtain ⟨m, e, q4⟩ := q3
      have eu := keyOf_ok hk ((x2.trans x3).va q1)
      exact P3.same R3 ⟨(k, w) :: m, by rw [e, eu]; rfl, w, m, rfl, x3.va q2, q4⟩
    · exact P3.elim
theorem se_dic {keys : List (Option Expr)} {values : List Expr} {ps : List (Dn × Dn)} {pos : Pos} (h : PPs X pos keys values (trsOf (gx X) E ps)) (hall : keys.all (·.isSome) = true) (hl : keys.length = values.length) (h0 : keys ≠ []) (h15 : keys.length ≤ 15) :
    SE X E (.Dict keys values pos) (dDic ps) := by
  refine PE.imp (pe_disp h hall hl h0 h15) fun σ H Q ⟨base, α, s, h, R, S, P⟩ => ?_
  intro p np
  obtain ⟨R0, x0⟩ := R.alloc (ob := .dct []) (o := .dK []) np fun ev => ⟨[], upd_same, rfl⟩
  refine pairs_rd R0 (x0.sl S) (Pst.bind (Pst.step x0 P) fun kvs h2 α2 vs H2 x2 R2 q2 P2 => ?_)
  obtain ⟨m, e, q3⟩ := q2
  split at P2
  · rename_i eh
    split at P2
    · rename_i h15
      have ea : α2[h.length]? = some p := x2.get (by rw [← R.len]; simp)
      obtain ⟨ks, e1, e2⟩ := R2.obs _ _ _ ea eh
      have e2 : ks = [] := e2
      subst e2
      refine ⟨e1, m, e, by rw [← fv_len q3]; exact h15, ?_⟩
      have key := R2.write (o := .dK (mergeK [] m)) (ob' := .dct (mergeV [] kvs)) ea eh rfl rfl fun ev => ⟨_, upd_same, fv_merge (ev.fvs (G := gx X) q3) rfl⟩
      exact P2 α2 (.ref p) _ key.2 key.1 ⟨p, ea, rfl⟩
    · exact P2.elim
  · exact P2.elim
theorem pps_of {pos : Pos} : ∀ {keys : List (Option Expr)} {values : List Expr} {ps : List (Dn × Dn)}, keys.length = values.length → ps.length = keys.length →
    (∀ (i : Nat) k v q, keys[i]? = some (some k) → values[i]? = some v → ps[i]? = some q → SE X E k q.1 ∧ SE X E v q.2) → keys.all (·.isSome) = true → PPs X pos keys values (trsOf (gx X) E ps)
  | [], [], [], _, _, _, _ => pps_nil
  | some k :: ks, v :: vs, q :: ps, h1, h2, h, ha => by
    obtain ⟨a, b⟩ := h 0 k v q rfl rfl rfl
    rw [List.all_cons, Bool.and_eq_true] at ha
    exact pps_cons a b (pps_of (by simpa using h1) (by simpa using h2) (fun i k v q e1 e2 e3 => h (i + 1) k v q e1 e2 e3) ha.2)
  | none :: _, _, _, _, _, _, ha => by cases ha
  | some _ :: _, [], _, h1, _, _, _ => by cases h1
  | some _ :: _, _ :: _, [], _, h2, _, _ => by cases h2
  | [], _ :: _, _, h1, _, _, _ => by cases h1
  | [], [], _ :: _, _, h2, _, _ => by cases h2
end
end CI
namespace CI
open PySem PySem.Spec PyProof.Rows L2

/-! ### from the text to its reading -/
structure FnI where
  x : Str
  ps : List Str
  dfl : List (Str × Pv)
  pur : Bool
  F : Fn
  pats : List (Nat × List Str)
structure Ct where
  N : List Str
  sc : Scope
  blk : Option Scope
  fns : List FnI
  gls : List (Str × Pv)
  bis : List Str
  /-- lists that are handed back are changed by the caller -/
  retM : Bool
  /-- names that hold lists which are changed -/
  muts : List Str
def findN : List Str → Str → Nat → Option Nat
  | [], _, _ => none
  | y :: r, x, i => if y = x then some i else findN r x (i + 1)
theorem findN_at : ∀ {N : List Str} {x : Str} {i j : Nat}, findN N x i = some j → i ≤ j ∧ N[j - i]? = some x
  | y :: r, x, i, j, h => by
    unfold findN at h
    split at h
    · rename_i e
      cases h
      subst e
      exact ⟨Nat.le_refl _, by rw [Nat.sub_self]; rfl⟩
    · obtain ⟨h1, h2⟩ := findN_at h
      refine ⟨by omega, ?_⟩
      rw [show j - i = (j - (i + 1)) + 1 by omega]
      simpa using h2
theorem findN_ok {N : List Str} {x : Str} {j : Nat} (h : findN N x 0 = some j) : N[j]? = some x := (findN_at h).2
/-- the values by the parameters' order: the first n by place, those named ks, those named ms -/
def pickO {α : Type} (n : Nat) (ks ms : List Str) (us mv ws : List α) : Nat → List Str → List α
  | _, [] => []
  | i, p :: r => (if i < n then us[i]? else match findN ks p 0 with
    | some j => ws[j]?
    | none => match findN ms p 0 with
      | some j => mv[j]?
      | none => none).toList ++ pickO n ks ms us mv ws (i + 1) r
def lackP (dfl : List (Str × Pv)) (ks : List Str) : List (Str × Pv) := dfl.filter fun q => !ks.contains q.1
def asmP (ps : List Str) (dfl : List (Str × Pv)) (n : Nat) (ks : List Str) : List Va → List Va → List Va := fun us ws => pickO n ks ((lackP dfl ks).map (·.1)) us ((lackP dfl ks).map fun q => .pv q.2) ws 0 ps
abbrev lackF (i : FnI) (ks : List Str) : List (Str × Pv) := lackP i.dfl ks
abbrev asmF (i : FnI) (n : Nat) (ks : List Str) : List Va → List Va → List Va := asmP i.ps i.dfl n ks
structure Recs where
  E : Ct → Expr → Option Dn
  T : Ct → Expr → Option Dt
def isVis : Option NameKind → Bool
  | some .local => true
  | some .cell => true
  | some .free => true
  | _ => false
def noDbg (x : Str) : Bool := !(x == ("__debug__" : Str)) && !(x == ("__classdict__" : Str)) && decide (x ≠ ("__name__" : Str))
def tyOf (x : Str) : Option String :=
  if x = ("int" : Str) then some "int" else if x = ("bool" : Str) then some "bool" else if x = ("str" : Str) then some "str" else if x = ("tuple" : Str) then some "tuple" else if x = ("list" : Str) then some "list" else none
def evName (ct : Ct) (x : Str) : Option Dn := if noDbg x then (if isVis (ct.sc.names.lookup x) then (findN ct.N x 0).map dVar
  else if ct.sc.names.lookup x = some .globalImplicit then (match ct.gls.lookup x with
    | some p => some (dC p)
    | none => if x ∈ ct.bis then (tyOf x).map fun T => dC (.ty T) else none) else none) else none
def evA (r : Recs) (ct : Ct) : List Expr → Option Da
  | [] => some daNil
  | e :: es => if notStar e then (match r.E ct e, evA r ct es with
    | some d, some da => some (daCons d da)
    | _, _ => none) else none
def evK (r : Recs) (ct : Ct) : List Keyword → Option Da
  | [] => some daNil
  | ⟨_, e, _⟩ :: es => match r.E ct e, evK r ct es with
    | some d, some da => some (daCons d da)
    | _, _ => none
def bMax : Fn := fun vs h => match vs with
  | [_, _] => bMax2 vs h
  | _ => bMax1 vs h
def bMin : Fn := fun vs h => match vs with
  | [_, _] => bMin2 vs h
  | _ => bMin1 vs h
def biOf (x : Str) : Option Fn :=
  if x = ("abs" : Str) then some bAbs else if x = ("len" : Str) then some bLen else if x = ("max" : Str) then some bMax else if x = ("min" : Str) then some bMin
  else if x = ("sum" : Str) then some bSum else if x = ("divmod" : Str) then some bDivmod else if x = ("repr" : Str) then some bRepr else if x = ("all" : Str) then some bAll else if x = ("any" : Str) then some bAny
  else if x = ("isinstance" : Str) then some bIsi else none
def biTOf (x : Str) : Option Fn :=
  if x = ("int" : Str) then some bInt else if x = ("str" : Str) then some bStr else if x = ("tuple" : Str) then some bTuple else if x = ("list" : Str) then some bList else none
def findF : List FnI → Str → Option FnI
  | [], _ => none
  | i :: r, x => if i.x = x then some i else findF r x
theorem findF_ok : ∀ {l : List FnI} {x : Str} {i : FnI}, findF l x = some i → i ∈ l ∧ i.x = x
  | j :: r, x, i, h => by
    unfold findF at h
    split at h
    · rename_i e; cases h; exact ⟨List.mem_cons_self, e⟩
    · obtain ⟨h1, h2⟩ := findF_ok h; exact ⟨List.mem_cons_of_mem _ h1, h2⟩
def isGlob (ct : Ct) (x : Str) : Bool := decide (ct.sc.names.lookup x = some .globalImplicit) && noDbg x
def evCall (r : Recs) (ct : Ct) (x : Str) (args : List Expr) (kws : List Keyword) : Option Dn :=
  if isGlob ct x && args.all notStar && kws.all (fun k => k.arg.isSome) then (match findF ct.fns x with
    | some i => if (args.length, kws.filterMap (·.arg)) ∈ i.pats then (match evA r ct args, evK r ct kws with
      | some da, some dk => if i.pur then some (dCallP i.F args.length (kws.filterMap (·.arg)).length (asmF i args.length (kws.filterMap (·.arg))) da dk)
        else some (dCall i.F args.length (kws.filterMap (·.arg)).length (asmF i args.length (kws.filterMap (·.arg))) da dk)
      | _, _ => none) else none
    | none => if x ∈ ct.bis ∧ kws.isEmpty ∧ !args.isEmpty then (match evA r ct args with
      | some da => (match biOf x with
        | some f => some (dBi f da)
        | none => match biTOf x with
          | some f => some (dBi f da)
          | none => none)
      | none => none) else none) else none
def evTg (ct : Ct) : Expr → Option Tg
  | .Name x _ => match findN ct.N x 0 with
    | some i => match ct.sc.names.lookup x with
      | some .local => some (gNm i)
      | some .cell => match ct.blk with
        | none => some (gNm i)
        | some s => if s.names.lookup x = some .cell then some (gNm i) else none
      | _ => none
    | none => none
  | _ => none
def evTgs (f : Expr → Option Tg) : List Expr → Option Tgs
  | [] => some gsNil
  | e :: es => if notStar e then (match f e, evTgs f es with
    | some t, some r => some (gsCons t r)
    | _, _ => none) else none
/-- a name, a tuple of names, one within another -/
def evTg1 (ct : Ct) (f : Expr → Option Tg) : Expr → Option Tg
  | .Tuple es _ _ => if es.all notStar then (evTgs f es).map (gTu es.length) else none
  | e => evTg ct e
def evTgt (ct : Ct) : Expr → Option Tg := evTg1 ct (evTg1 ct (evTg ct))
def notSet : Expr → Bool
  | .Set .. => false
  | _ => true
def evIt (r : Recs) (ct : Ct) (e : Expr) : Option Da := match e with
  | .Call (.Name x _) args [] _ => if x = ("range" : Str) then (if ct.sc.names.lookup ("range" : Str) = some .globalImplicit ∧ ("range" : Str) ∈ ct.bis then (match args with
      | [_] => (evA r ct args).map iRng1
      | [_, _] => (evA r ct args).map iRng2
      | _ => none) else none) else (r.E ct e).map iSeq
  | e => if notSet e then (r.E ct e).map iSeq else none
def ownOf (N : List Str) (sc : Scope) : List (Str × Nat) := sc.names.filterMap fun y => match y.2 with
  | .local => (findN N y.1 0).map fun i => (y.1, i)
  | .cell => (findN N y.1 0).map fun i => (y.1, i)
  | _ => none
/-- the parts of a comprehension -/
def evComp (r : Recs) (ct : Ct) (elt : Expr) (gs : List Comprehension) (scope : Scope) : Option Dn := match gs with
  | [⟨tg, it, ifs, 0⟩] => if blkC ct.N ct.sc scope (ownOf ct.N scope) && notSet it then (
      match evIt r ct it, evTgt { ct with sc := relS scope ct.sc, blk := some scope } tg, r.E { ct with sc := relS scope ct.sc, blk := some scope } elt with
      | some da, some t, some d => if t.slots.all (fun i => decide (i ∈ (ownOf ct.N scope).map (·.2))) then (match ifs with
          | [] => some (dComp da ((ownOf ct.N scope).map (·.2)) t tYesD d)
          | [c] => (r.T { ct with sc := relS scope ct.sc, blk := some scope } c).map fun tc => dComp da ((ownOf ct.N scope).map (·.2)) t tc d
          | _ => none) else none
      | _, _, _ => none) else none
  | _ => none
def evAndV (r : Recs) (ct : Ct) (op : BoolOp) : List Expr → Option Dn
  | [] => none
  | [e] => r.E ct e
  | e :: e2 :: es => match r.E ct e, evAndV r ct op (e2 :: es) with
    | some a, some b => some (match op with | .And => dAnd a b | .Or => dOr a b)
    | _, _ => none
def evAndT (r : Recs) (ct : Ct) (op : BoolOp) : List Expr → Option Dt
  | [] => none
  | [e] => r.T ct e
  | e :: e2 :: es => match r.T ct e, evAndT r ct op (e2 :: es) with
    | some a, some b => some (match op with | .And => tAnd a b | .Or => tOr a b)
    | _, _ => none
def evBin (op : Operator) : Option Op2 := match op with
  | .Add => some oAdd
  | .Sub => some oSub
  | .Mult => some oMul
  | .FloorDiv => some oDiv
  | .Mod => some oMod
  | .Pow => some oPow
  | _ => none
/-- a comparison, as a value -/
def evCmp (r : Recs) (ct : Ct) (a : Expr) (ops : List CmpOp) (bs : List Expr) : Option Dn := match ops, bs with
  | [.Is], [.Constant .none _ _] => (r.E ct a).map (dIsN false)
  | [.IsNot], [.Constant .none _ _] => (r.E ct a).map (dIsN true)
  | [op], [b] => match cmpOp op, r.E ct a, r.E ct b with
    | some f, some da, some db => some (dBin f da db)
    | _, _, _ => none
  | [op, op'], [b, c] => match cmpOp op, cmpOp op', r.E ct a, r.E ct b, r.E ct c with
    | some f, some g, some da, some db, some dc => some (dChn f g da db dc)
    | _, _, _, _, _ => none
  | _, _ => none
/-- the pairs of a display -/
def evDic (r : Recs) (ct : Ct) : List (Option Expr) → List Expr → Option (List (Dn × Dn))
  | [], [] => some []
  | some k :: ks, v :: vs => match r.E ct k, r.E ct v, evDic r ct ks vs with
    | some a, some b, some l => some ((a, b) :: l)
    | _, _, _ => none
  | _, _ => none
def stepE (r : Recs) (ct : Ct) : Expr → Option Dn
  | .Name x _ => evName ct x
  | .Constant (.int i) _ _ => some (dC (.int i))
  | .Constant (.bool i) _ _ => some (dC (.bl i))
  | .Constant (.str i) _ _ => some (dC (.str i))
  | .Constant .none _ _ => some (dC .non)
  | .BinOp a op b _ => match evBin op, r.E ct a, r.E ct b with
    | some f, some da, some db => some (dBin f da db)
    | _, _, _ => none
  | .UnaryOp .USub a _ => (r.E ct a).map dNeg
  | .UnaryOp .Not a _ => (r.E ct a).map dNot
  | .Compare a ops bs _ => evCmp r ct a ops bs
  | .BoolOp op es _ => evAndV r ct op es
  | .IfExp c a b _ => match r.T ct c, r.E ct a, r.E ct b with
    | some t, some da, some db => some (dIf t da db)
    | _, _, _ => none
  | .Tuple es _ _ => (evA r ct es).map dTup
  | .List es _ => (evA r ct es).map dLst
  | .Dict ks vs _ => if ks.all (·.isSome) && decide (ks.length = vs.length) && !ks.isEmpty && decide (ks.length ≤ 15) then (evDic r ct ks vs).map dDic else none
  | .Subscript a i _ => if plainI i then (match r.E ct a, r.E ct i with
    | some da, some di => some (dBin oIdx da di)
    | _, _ => none) else none
  | .Call (.Name x _) args kws _ => evCall r ct x args kws
  | .ListComp elt gs scope _ => evComp r ct elt gs scope
  | _ => none
def stepT (r : Recs) (ct : Ct) : Expr → Option Dt
  | .Compare a ops bs _ => (evCmp r ct a ops bs).map tVB
  | .BoolOp op es _ => evAndT r ct op es
  | .UnaryOp .Not a _ => (r.T ct a).map tNot
  | .Call f args kws p => (r.E ct (.Call f args kws p)).map tVal
  | .Name x p => (r.E ct (.Name x p)).map tVal
  | .Subscript a i p => (r.E ct (.Subscript a i p)).map tVal
  | .Constant c k p => (r.E ct (.Constant c k p)).map tVal
  | _ => none
def recs : Nat → Recs
  | 0 => ⟨fun _ _ => none, fun _ _ => none⟩
  | n + 1 => ⟨stepE (recs n), stepT (recs n)⟩

/-! ### what stands around -/
structure Okx (ct : Ct) (X : Cx) (E : XK) : Prop where
  N : X.N = ct.N
  nd : ct.N.Nodup
  sc : X.env.scope = ct.sc
  kind : ct.sc.kind = .function
  calm : X.calm = true
  fn : match ct.blk with
    | none => ∀ x, X.fn x = true
    | some s => ∀ x, X.fn x = (s.names.lookup x == some .cell)
  gd : X.A.guards = some []
  un : X.A.units + 64 < cLine
  ps : Passes (L2.CX X.prog X.w) X E
  fns : ∀ i ∈ ct.fns, ∀ q ∈ i.pats, ∃ k, Room k X.A ∧ DefAt X i.x k i.ps i.F q.1 q.2 (asmF i q.1 q.2)
  gls : ∀ g ∈ ct.gls, ∃ u v, X.mg g.1 = some u ∧ RelV v u ∧ Stat (gx X) g.2 v
  bis : ∀ x ∈ ct.bis, X.mg x = none
structure Sound (r : Recs) : Prop where
  E : ∀ ct e d, r.E ct e = some d → ∀ X E, Okx ct X E → SE X E e d
  T : ∀ ct e d, r.T ct e = some d → ∀ X E, Okx ct X E → STt X E e d
section
variable {r : Recs} {ct : Ct} {X : Cx} {E : XK}
theorem noDbg_ok {x : Str} (h : noDbg x = true) : (x == ("__debug__" : Str)) = false ∧ (x == ("__classdict__" : Str)) = false ∧ x ≠ "__name__" := by
  unfold noDbg at h
  simp only [Bool.and_eq_true, Bool.not_eq_true', decide_eq_true_eq] at h
  exact ⟨h.1.1, h.1.2, h.2⟩
theorem isVis_ok {sc : Scope} {x : Str} (h : isVis (sc.names.lookup x) = true) : Vis sc x := by
  unfold isVis at h
  split at h
  · rename_i e; exact .inl e
  · rename_i e; exact .inr (.inl e)
  · rename_i e; exact .inr (.inr e)
  · cases h
theorem lookup_mem {α : Type} {l : List (Str × α)} {x : Str} {p : α} (h : l.lookup x = some p) : (x, p) ∈ l := PySem.mem_of_lookup h
theorem glob_of (K : Okx ct X E) {x : Str} (h : ct.sc.names.lookup x = some .globalImplicit) : Gl X x := by
  show X.env.scope.names.lookup x = _
  rw [K.sc]; exact h
/-- a built-in type's name as a value -/
theorem se_tyN {x : Str} {T : String} {pos : Pos} (hg : Gl X x) (hm : X.mg x = none) (hv : bootBuiltins x = some (.type T)) (hn : x ≠ "__name__") (hd : (x == ("__debug__" : Str)) = false) : SE X E (.Name x pos) (dC (.ty T)) :=
  PE.imp (pe_bltn (v := .ty T) hg hm hv rfl hn hd) fun σ H Q ⟨base, α, s, h, R, S, P⟩ => P.same R (rv_ty.mpr rfl)
theorem boot_ty {x : Str} {T : String} (h : tyOf x = some T) : bootBuiltins x = some (.type T) := by
  unfold tyOf at h
  repeat (split at h; · rename_i e; cases h; subst e; decide +kernel)
  cases h
theorem name_ok (K : Okx ct X E) {x : Str} {pos : Pos} {d : Dn} (h : evName ct x = some d) : SE X E (.Name x pos) d := by
  unfold evName at h
  split at h
  · rename_i hd
    obtain ⟨n1, n2, n3⟩ := noDbg_ok hd
    split at h
    · rename_i hv
      obtain ⟨i, h1, h2⟩ := Option.map_eq_some_iff.mp h
      subst h2
      exact se_var (by rw [K.N]; exact findN_ok h1) (by rw [K.sc]; exact isVis_ok hv) n1 n2
    · split at h
      · rename_i hg
        have hg := glob_of K hg
        split at h
        · rename_i p hp
          cases h
          exact se_glob hg (K.gls _ (lookup_mem hp)) n1
        · split at h
          · rename_i hb
            obtain ⟨T, h1, h2⟩ := Option.map_eq_some_iff.mp h
            subst h2
            exact se_tyN hg (K.bis x hb) (boot_ty h1) n3 n1
          · cases h
      · cases h
  · cases h
theorem args_ok (hr : Sound r) (K : Okx ct X E) : ∀ {es : List Expr} {d : Da}, evA r ct es = some d → SA X E es d ∧ es.all notStar = true ∧ (es = [] → d = daNil)
  | [], d, h => by cases h; exact ⟨sa_nil, rfl, fun _ => rfl⟩
  | e :: es, d, h => by
    unfold evA at h
    split at h
    · rename_i hn
      split at h
      · rename_i d0 da h1 h2
        cases h
        obtain ⟨a1, a2, _⟩ := args_ok hr K h2
        exact ⟨sa_cons hn (hr.E _ _ _ h1 X E K) a1, by rw [List.all_cons, hn, a2]; rfl, fun z => nomatch z⟩
      · cases h
    · cases h
theorem kws_ok (hr : Sound r) (K : Okx ct X E) : ∀ {es : List Keyword} {d : Da}, evK r ct es = some d → SKw X E es d
  | [], d, h => by cases h; exact skw_nil
  | ⟨nm, e, p⟩ :: es, d, h => by
    unfold evK at h
    split at h
    · rename_i d0 da h1 h2
      cases h
      exact skw_cons (hr.E _ _ _ h1 X E K) (kws_ok hr K h2)
    · cases h
theorem cs_max : CalS X E bMax (fun xs H Q => (∃ i j, xs = [.int i, .int j] ∧ Q (.int (if j > i then j else i)) H) ∨ rMax X.K xs H Q) := by
  intro base α h H us vs Q R q P
  unfold bMax at P
  split at P
  · exact .inl (cs_max2 base α h H _ vs Q R q P)
  · exact .inr (cs_max1 base α h H _ vs Q R q P)
theorem cs_min : CalS X E bMin (fun xs H Q => (∃ i j, xs = [.int i, .int j] ∧ Q (.int (if j < i then j else i)) H) ∨ rMin X.K xs H Q) := by
  intro base α h H us vs Q R q P
  unfold bMin at P
  split at P
  · exact .inl (cs_min2 base α h H _ vs Q R q P)
  · exact .inr (cs_min1 base α h H _ vs Q R q P)
theorem bi_ok (K : Okx ct X E) {x : Str} {f : Fn} (h : biOf x = some f) : ∃ (id : String) (r : List V → Hp → VK → Prop), bootBuiltins x = some (.builtin id) ∧ CallR X (.builtin id) r ∧ CalS X E f r := by
  unfold biOf at h
  split at h
  · rename_i e; cases h; subst e; exact ⟨"abs", _, by decide +kernel, call_abs, cs_abs⟩
  split at h
  · rename_i e; cases h; subst e; exact ⟨"len", _, by decide +kernel, call_len, cs_len⟩
  split at h
  · rename_i e; cases h; subst e; exact ⟨"max", _, by decide +kernel, (call_max2 K.calm).or (cr_max K.calm), cs_max⟩
  split at h
  · rename_i e; cases h; subst e; exact ⟨"min", _, by decide +kernel, (call_min2 K.calm).or (cr_min K.calm), cs_min⟩
  split at h
  · rename_i e; cases h; subst e; exact ⟨"sum", _, by decide +kernel, cr_sum K.calm, cs_sum⟩
  split at h
  · rename_i e; cases h; subst e; exact ⟨"divmod", _, by decide +kernel, call_divmodG, cs_divmod⟩
  split at h
  · rename_i e; cases h; subst e; exact ⟨"repr", _, by decide +kernel, call_reprG K.gd (by have := K.un; omega), cs_repr⟩
  split at h
  · rename_i e; cases h; subst e; exact ⟨"all", _, by decide +kernel, cr_all K.calm, cs_all⟩
  split at h
  · rename_i e; cases h; subst e; exact ⟨"any", _, by decide +kernel, cr_any K.calm, cs_any⟩
  split at h
  · rename_i e; cases h; subst e; exact ⟨"isinstance", _, by decide +kernel, call_isi, cs_isi⟩
  cases h
theorem biT_ok {x : Str} {f : Fn} (h : biTOf x = some f) : ∃ (T : String) (r : List V → Hp → VK → Prop), bootBuiltins x = some (.type T) ∧ CallR X (.type T) r ∧ CalS X E f r := by
  unfold biTOf at h
  split at h
  · rename_i e; cases h; subst e; exact ⟨"int", _, by decide +kernel, call_int1, cs_int⟩
  split at h
  · rename_i e; cases h; subst e; exact ⟨"str", _, by decide +kernel, call_strG, cs_str⟩
  split at h
  · rename_i e; cases h; subst e; exact ⟨"tuple", _, by decide +kernel, call_tuple_of, cs_tuple⟩
  split at h
  · rename_i e; cases h; subst e; exact ⟨"list", _, by decide +kernel, call_list_of, cs_list⟩
  cases h
theorem call_ok (hr : Sound r) (K : Okx ct X E) {x : Str} {args : List Expr} {kws : List Keyword} {p pos : Pos} {d : Dn} (h : evCall r ct x args kws = some d) : SE X E (.Call (.Name x p) args kws pos) d := by
  unfold evCall at h
  split at h
  · rename_i hc
    simp only [Bool.and_eq_true] at hc
    obtain ⟨⟨h1, h2⟩, h3⟩ := hc
    unfold isGlob at h1
    simp only [Bool.and_eq_true, decide_eq_true_eq] at h1
    have hg := glob_of K h1.1
    obtain ⟨n1, n2, n3⟩ := noDbg_ok h1.2
    split at h
    · rename_i i hi
      obtain ⟨m1, m2⟩ := findF_ok hi
      split at h
      · rename_i hp
        split at h
        · rename_i da dk ha hk
          obtain ⟨k, rm, D⟩ := K.fns i m1 _ hp
          rw [m2] at D
          obtain ⟨a1, a2, a3⟩ := args_ok hr K ha
          split at h
          · cases h
            exact se_callP rm K.gd K.ps hg n1 D a3 (fun _ => a1) (kws_ok hr K hk) h2 h3 rfl
          · cases h
            exact se_call rm K.gd K.ps hg n1 D a3 (fun _ => a1) (kws_ok hr K hk) h2 h3 rfl
        · cases h
      · cases h
    · split at h
      · rename_i hb
        obtain ⟨hb1, hb2, hb3⟩ := hb
        have ek : kws = [] := by cases kws <;> first | rfl | cases hb2
        subst ek
        split at h
        · rename_i da ha
          obtain ⟨a1, a2, a3⟩ := args_ok hr K ha
          cases args with
          | nil => cases hb3
          | cons e es =>
            split at h
            · rename_i f hf
              cases h
              obtain ⟨id, rr, b1, b2, b3⟩ := bi_ok K hf
              exact se_bi b2 b3 hg (K.bis x hb1) b1 n3 n1 a1 a2
            · split at h
              · rename_i f hf
                cases h
                obtain ⟨id, rr, b1, b2, b3⟩ := biT_ok (X := X) (E := E) hf
                exact se_biT b2 b3 hg (K.bis x hb1) b1 n3 n1 a1 a2
              · cases h
        · cases h
      · cases h
  · cases h
theorem tg0_ok (K : Okx ct X E) {e : Expr} {t : Tg} (h : evTg ct e = some t) : STg X e t := by
  unfold evTg at h
  split at h
  · rename_i x pos
    split at h
    · rename_i i hi
      have hN : X.N[i]? = some x := by rw [K.N]; exact findN_ok hi
      have hd : X.N.Nodup := by rw [K.N]; exact K.nd
      split at h
      · rename_i hl
        cases h
        have hl' : X.env.scope.names.lookup x = some .local := by rw [K.sc]; exact hl
        exact tg_name hd hN (.inl hl') (.inr hl')
      · rename_i hl
        have hl' : X.env.scope.names.lookup x = some .cell := by rw [K.sc]; exact hl
        have hf := K.fn
        split at h
        · rename_i hb
          cases h
          rw [hb] at hf
          exact tg_name hd hN (.inr hl') (.inl (hf x))
        · rename_i s hb
          rw [hb] at hf
          split at h
          · rename_i hs
            cases h
            exact tg_name hd hN (.inr hl') (.inl (by rw [hf x, hs]; rfl))
          · cases h
      · cases h
    · cases h
  · cases h
theorem tgs_ok {f : Expr → Option Tg} (hf : ∀ e t, f e = some t → STg X e t) : ∀ {es : List Expr} {t : Tgs}, evTgs f es = some t → STgs X es t
  | [], t, h => by cases h; exact tgs_nil
  | e :: es, t, h => by
    unfold evTgs at h
    split at h
    · rename_i hn
      split at h
      · rename_i t0 r0 h1 h2
        cases h
        exact tgs_cons hn (hf _ _ h1) (tgs_ok hf h2)
      · cases h
    · cases h
theorem tg1_ok (K : Okx ct X E) {f : Expr → Option Tg} (hf : ∀ e t, f e = some t → STg X e t) {e : Expr} {t : Tg} (h : evTg1 ct f e = some t) : STg X e t := by
  unfold evTg1 at h
  split at h
  · split at h
    · rename_i hs
      obtain ⟨r0, h1, h2⟩ := Option.map_eq_some_iff.mp h
      subst h2
      exact tg_tup K.calm hs (tgs_ok hf h1)
    · cases h
  · exact tg0_ok K h
theorem tgt_ok (K : Okx ct X E) {e : Expr} {t : Tg} (h : evTgt ct e = some t) : STg X e t := tg1_ok K (fun _ _ h1 => tg1_ok K (fun _ _ h2 => tg0_ok K h2) h1) h
theorem noFold {e : Expr} {env : Env} (h : notSet e = true) : ∀ x, foldedSetIterable e env x = pure x := by
  intro x
  cases e <;> first | rfl | cases h
theorem it_ok (hr : Sound r) (K : Okx ct X E) {tg e : Expr} {d : Da} (h : evIt r ct e = some d) : SI X E tg e d := by
  unfold evIt at h
  split at h
  · rename_i x p args pos
    split at h
    · rename_i ex
      subst ex
      split at h
      · rename_i hb
        have hg := glob_of K hb.1
        split at h
        · rename_i a
          obtain ⟨da, h1, h2⟩ := Option.map_eq_some_iff.mp h
          subst h2
          obtain ⟨a1, a2, _⟩ := args_ok hr K h1
          simp only [List.all_cons, List.all_nil, Bool.and_eq_true, Bool.and_true] at a2
          exact si_rng1 hg (K.bis _ hb.2) a2 a1
        · rename_i a b
          obtain ⟨da, h1, h2⟩ := Option.map_eq_some_iff.mp h
          subst h2
          obtain ⟨a1, a2, _⟩ := args_ok hr K h1
          simp only [List.all_cons, List.all_nil, Bool.and_eq_true, Bool.and_true] at a2
          exact si_rng2 hg (K.bis _ hb.2) a2.1 a2.2 a1
        · cases h
      · cases h
    · obtain ⟨d0, h1, h2⟩ := Option.map_eq_some_iff.mp h
      subst h2
      exact si_seq (hr.E _ _ _ h1 X E K)
  · split at h
    · obtain ⟨d0, h1, h2⟩ := Option.map_eq_some_iff.mp h
      subst h2
      exact si_seq (hr.E _ _ _ h1 X E K)
    · cases h
end
end CI
namespace CI
open PySem PySem.Spec PyProof.Rows L2
section
variable {r : Recs} {ct : Ct} {X : Cx} {E : XK}
theorem relS_kind {scope sc : Scope} : (relS scope sc).kind = scope.kind := rfl
/-- within a comprehension's block -/
theorem Okx.blk (K : Okx ct X E) {scope : Scope} (ok : blkC ct.N ct.sc scope (ownOf ct.N scope) = true) (s : Shared) (H : Hp) (C : Addr) (cl : List (Str × Addr)) (fp : List Addr) :
    Okx { ct with sc := relS scope ct.sc, blk := some scope } (X.blk s H scope (compEnvC scope cl C X.env) fp) noE where
  N := K.N
  nd := K.nd
  sc := by
    show relS scope X.env.scope = _
    rw [K.sc]
  kind := (blkOk_by ok).kind
  calm := K.calm
  fn := fun x => rfl
  gd := K.gd
  un := K.un
  ps := passL
  fns := fun i hi q hq => by
    obtain ⟨k, rm, D⟩ := K.fns i hi q hq
    exact ⟨k, rm, ⟨D.ex⟩⟩
  gls := K.gls
  bis := K.bis
theorem comp_parts (hr : Sound r) (K : Okx ct X E) {elt : Expr} {gs : List Comprehension} {scope : Scope} {d : Dn} (h : evComp r ct elt gs scope = some d) :
    ∃ tg it ifs da vs t c de, gs = [⟨tg, it, ifs, 0⟩] ∧ d = dComp da vs t c de ∧ SI X E tg it da ∧ BlkOk X.N X.env.scope scope (ownOf ct.N scope) ∧ Blks X scope (fun Y => STg Y tg t) ∧ Blks X scope (fun Y => PTs Y ifs (tG (gx Y) noE rB c)) ∧ Blks X scope (fun Y => SE Y noE elt de) ∧
      (∀ x, foldedSetIterable it X.env x = pure x) ∧ (ownOf ct.N scope).map (·.2) = vs ∧ ∀ i ∈ t.slots, i ∈ vs := by
  unfold evComp at h
  split at h
  · rename_i tg it ifs
    split at h
    · rename_i hb
      simp only [Bool.and_eq_true] at hb
      obtain ⟨hb, hns⟩ := hb
      have ok : BlkOk X.N X.env.scope scope (ownOf ct.N scope) := by rw [K.N, K.sc]; exact blkOk_by hb
      split at h
      · rename_i da t de h1 h2 h3
        split at h
        · rename_i hs
          simp only [List.all_eq_true, decide_eq_true_eq] at hs
          have b1 : Blks X scope (fun Y => STg Y tg t) := fun s H C cl fp => tgt_ok (K.blk hb s H C cl fp) h2
          have b3 : Blks X scope (fun Y => SE Y noE elt de) := fun s H C cl fp => hr.E _ _ _ h3 _ _ (K.blk hb s H C cl fp)
          split at h
          · cases h
            exact ⟨tg, it, [], da, _, t, _, de, rfl, rfl, it_ok hr K h1, ok, b1, fun s H C cl fp => pts_of rfl rfl, b3, noFold hns, rfl, hs⟩
          · rename_i c
            obtain ⟨tc, h4, h5⟩ := Option.map_eq_some_iff.mp h
            subst h5
            exact ⟨tg, it, [c], da, _, t, tc, de, rfl, rfl, it_ok hr K h1, ok, b1, fun s H C cl fp => pts_of1 (hr.T _ _ _ h4 _ _ (K.blk hb s H C cl fp)), b3, noFold hns, rfl, hs⟩
          · cases h
        · cases h
      · cases h
    · cases h
  · cases h
theorem comp_ok (hr : Sound r) (K : Okx ct X E) {elt : Expr} {gs : List Comprehension} {scope : Scope} {pos : Pos} {d : Dn} (h : evComp r ct elt gs scope = some d) : SE X E (.ListComp elt gs scope pos) d := by
  obtain ⟨tg, it, ifs, da, vs, t, c, de, rfl, rfl, h1, h2, h3, h4, h5, h6, h7, h8⟩ := comp_parts hr K h
  exact se_comp K.calm (by rw [K.N]; exact K.nd) h1 h2 h3 h4 h5 h6 h7 h8
theorem boolV_ok (hr : Sound r) (K : Okx ct X E) {op : BoolOp} {pos : Pos} : ∀ {es : List Expr} {d : Dn}, evAndV r ct op es = some d → SE X E (.BoolOp op es pos) d
  | [], d, h => by cases h
  | [e], d, h => se_one (hr.E _ _ _ h X E K)
  | e :: e2 :: es, d, h => by
    unfold evAndV at h
    split at h
    · rename_i a b h1 h2
      cases h
      have hb := boolV_ok hr K (pos := pos) h2
      cases op with
      | And => exact se_and (hr.E _ _ _ h1 X E K) hb
      | Or => exact se_or (hr.E _ _ _ h1 X E K) hb
    · cases h
theorem boolT_ok (hr : Sound r) (K : Okx ct X E) {op : BoolOp} {pos : Pos} : ∀ {es : List Expr} {d : Dt}, evAndT r ct op es = some d → SW X E (.BoolOp op es pos) d
  | [], d, h => by cases h
  | [e], d, h => by
    cases op with
    | And => exact sw_and1 (hr.T _ _ _ h X E K)
    | Or => exact sw_or1 (hr.T _ _ _ h X E K)
  | e :: e2 :: es, d, h => by
    unfold evAndT at h
    split at h
    · rename_i a b h1 h2
      cases h
      have hb := boolT_ok hr K (pos := pos) h2
      cases op with
      | And => exact sw_and (hr.T _ _ _ h1 X E K) hb
      | Or => exact sw_or (hr.T _ _ _ h1 X E K) hb
    · cases h
theorem cmp_ok (hr : Sound r) (K : Okx ct X E) {a : Expr} {ops : List CmpOp} {bs : List Expr} {pos : Pos} {d : Dn} (h : evCmp r ct a ops bs = some d) : SE X E (.Compare a ops bs pos) d ∧ STt X E (.Compare a ops bs pos) (tVB d) := by
  unfold evCmp at h
  split at h
  · obtain ⟨da, h1, h2⟩ := Option.map_eq_some_iff.mp h
    subst h2
    have ha := hr.E _ _ _ h1 X E K
    exact ⟨se_isN (neg := false) ha, st_isN (neg := false) ha⟩
  · obtain ⟨da, h1, h2⟩ := Option.map_eq_some_iff.mp h
    subst h2
    have ha := hr.E _ _ _ h1 X E K
    exact ⟨se_isN (neg := true) ha, st_isN (neg := true) ha⟩
  · split at h
    · rename_i f da db h1 h2 h3
      cases h
      exact ⟨se_cmpO K.un h1 (hr.E _ _ _ h2 X E K) (hr.E _ _ _ h3 X E K), st_cmpO K.un h1 (hr.E _ _ _ h2 X E K) (hr.E _ _ _ h3 X E K)⟩
    · cases h
  · split at h
    · rename_i f g da db dc h1 h2 h3 h4 h5
      cases h
      exact ⟨se_chn K.un h1 h2 (hr.E _ _ _ h3 X E K) (hr.E _ _ _ h4 X E K) (hr.E _ _ _ h5 X E K), st_chn K.un h1 h2 (hr.E _ _ _ h3 X E K) (hr.E _ _ _ h4 X E K) (hr.E _ _ _ h5 X E K)⟩
    · cases h
  · cases h
theorem bin_ok (hr : Sound r) (K : Okx ct X E) {a b : Expr} {op : Operator} {pos : Pos} {f : Op2} {da db : Dn} (h : evBin op = some f) (ha : SE X E a da) (hb : SE X E b db) : SE X E (.BinOp a op b pos) (dBin f da db) := by
  cases op <;> first | (cases h; done) | skip
  all_goals (injection h with h; subst h)
  · exact se_add ha hb
  · exact se_sub ha hb
  · exact se_mul ha hb
  · exact se_mod ha hb
  · exact se_pow ha hb
  · exact se_div ha hb
theorem dic_ok (hr : Sound r) (K : Okx ct X E) : ∀ {ks : List (Option Expr)} {vs : List Expr} {ps : List (Dn × Dn)}, evDic r ct ks vs = some ps → ps.length = ks.length ∧ ∀ (i : Nat) k v q, ks[i]? = some (some k) → vs[i]? = some v → ps[i]? = some q → SE X E k q.1 ∧ SE X E v q.2
  | [], [], ps, h => by cases h; exact ⟨rfl, fun i k v q e => by simp at e⟩
  | some k :: ks, v :: vs, ps, h => by
    unfold evDic at h
    split at h
    · rename_i a b l h1 h2 h3
      cases h
      obtain ⟨e1, e2⟩ := dic_ok hr K h3
      refine ⟨by rw [List.length_cons, List.length_cons, e1], fun i k' v' q x1 x2 x3 => ?_⟩
      cases i with
      | zero =>
        simp at x1 x2 x3
        subst x1 x2 x3
        exact ⟨hr.E _ _ _ h1 X E K, hr.E _ _ _ h2 X E K⟩
      | succ i => exact e2 i k' v' q (by simpa using x1) (by simpa using x2) (by simpa using x3)
    · cases h
  | none :: _, _, _, h => by cases h
  | some _ :: _, [], _, h => by cases h
  | [], _ :: _, _, h => by cases h
theorem stepE_ok (hr : Sound r) (K : Okx ct X E) {e : Expr} {d : Dn} (h : stepE r ct e = some d) : SE X E e d := by
  unfold stepE at h
  split at h
  · exact name_ok K h
  · cases h; exact se_int
  · cases h; exact se_bl
  · cases h; exact se_str
  · cases h; exact se_non
  · split at h
    · rename_i f da db h1 h2 h3
      cases h
      exact bin_ok hr K h1 (hr.E _ _ _ h2 X E K) (hr.E _ _ _ h3 X E K)
    · cases h
  · obtain ⟨da, h1, h2⟩ := Option.map_eq_some_iff.mp h
    subst h2
    exact se_neg (hr.E _ _ _ h1 X E K)
  · obtain ⟨da, h1, h2⟩ := Option.map_eq_some_iff.mp h
    subst h2
    exact se_not (hr.E _ _ _ h1 X E K)
  · exact (cmp_ok hr K h).1
  · exact boolV_ok hr K h
  · split at h
    · rename_i t da db h1 h2 h3
      cases h
      exact se_ife (hr.T _ _ _ h1 X E K) (hr.E _ _ _ h2 X E K) (hr.E _ _ _ h3 X E K)
    · cases h
  · obtain ⟨da, h1, h2⟩ := Option.map_eq_some_iff.mp h
    subst h2
    exact se_tup (args_ok hr K h1).1
  · obtain ⟨da, h1, h2⟩ := Option.map_eq_some_iff.mp h
    subst h2
    exact se_lst (args_ok hr K h1).1
  · split at h
    · rename_i hc
      simp only [Bool.and_eq_true, decide_eq_true_eq, Bool.not_eq_true'] at hc
      obtain ⟨⟨⟨c1, c2⟩, c3⟩, c4⟩ := hc
      obtain ⟨ps, h1, h2⟩ := Option.map_eq_some_iff.mp h
      subst h2
      obtain ⟨e1, e2⟩ := dic_ok hr K h1
      exact se_dic (pps_of c2 e1 e2 c1) c1 c2 (by intro z; rw [z] at c3; cases c3) c4
    · cases h
  · split at h
    · rename_i hp
      split at h
      · rename_i da di h1 h2
        cases h
        exact se_idx hp (hr.E _ _ _ h1 X E K) (hr.E _ _ _ h2 X E K)
      · cases h
    · cases h
  · exact call_ok hr K h
  · exact comp_ok hr K h
  · cases h
theorem stepT_ok (hr : Sound r) (K : Okx ct X E) {e : Expr} {d : Dt} (h : stepT r ct e = some d) : STt X E e d := by
  unfold stepT at h
  split at h
  · obtain ⟨da, h1, h2⟩ := Option.map_eq_some_iff.mp h
    subst h2
    exact (cmp_ok hr K h1).2
  · exact (boolT_ok hr K h).st
  · obtain ⟨da, h1, h2⟩ := Option.map_eq_some_iff.mp h
    subst h2
    exact st_not (hr.T _ _ _ h1 X E K)
  · obtain ⟨da, h1, h2⟩ := Option.map_eq_some_iff.mp h
    subst h2
    exact st_tru rfl (hr.E _ _ _ h1 X E K)
  · obtain ⟨da, h1, h2⟩ := Option.map_eq_some_iff.mp h
    subst h2
    exact st_tru rfl (hr.E _ _ _ h1 X E K)
  · obtain ⟨da, h1, h2⟩ := Option.map_eq_some_iff.mp h
    subst h2
    exact st_tru rfl (hr.E _ _ _ h1 X E K)
  · obtain ⟨da, h1, h2⟩ := Option.map_eq_some_iff.mp h
    subst h2
    exact st_tru rfl (hr.E _ _ _ h1 X E K)
  · cases h
end
theorem recs_ok : ∀ n, Sound (recs n)
  | 0 => ⟨fun _ _ _ h => (nomatch h), fun _ _ _ h => (nomatch h)⟩
  | n + 1 => ⟨fun _ _ _ h _ _ K => stepE_ok (recs_ok n) K h, fun _ _ _ h _ _ K => stepT_ok (recs_ok n) K h⟩

/-! ### statements -/
structure RecS where
  S : Ct → Stmt → Option Sn
  B : Ct → List Stmt → Option Sn
def evB (f : Ct → Stmt → Option Sn) (ct : Ct) : List Stmt → Option Sn
  | [] => some sNil
  | [s] => f ct s
  | s :: s2 :: r => match f ct s, evB f ct (s2 :: r) with
    | some a, some b => some (sSeq a b)
    | _, _ => none
/-- name = list, a list that will be changed -/
def evLstM (r : Recs) (ct : Ct) (e : Expr) : Option Dn := match e with
  | .List es _ => (evA r ct es).map dLstM
  | _ => none
def evAsg (r : Recs) (ct : Ct) (tgs : List Expr) (e : Expr) (pos : Pos) : Option Sn := match tgs with
  | [.Name x py] => match findN ct.N x 0 with
    | some i => match e with
      | .ListComp elt gs scope cp => if ct.sc.names.lookup x = some .local && (py.line == cp.line) && !(scope.names.any fun (n, k) => n == x && (k == .local || k == .cell)) then (evComp r ct elt gs scope).map fun d => sAsg (gNm i) d
        else if ct.sc.names.lookup x = some .cell then (match evTg ct (.Name x py), evComp r ct elt gs scope with
          | some t, some d => some (sAsg t d)
          | _, _ => none) else none
      | e => if isComp e then none else if x ∈ ct.muts then (match evTg ct (.Name x py), evLstM r ct e with
          | some t, some d => some (sAsg t d)
          | _, _ => none) else (match evTg ct (.Name x py), r.E ct e with
          | some t, some d => some (sAsg t d)
          | _, _ => none)
    | none => none
  | [.Tuple ts k p] => match e with
    | .Tuple es k2 p2 => match swF ct.sc ts es with
      | some none => match evTgt ct (.Tuple ts k p), r.E ct e with
        | some t, some d => some (sAsg t d)
        | _, _ => none
      | some (some xs) => match evA r ct es, mapO (fun x => if ct.sc.names.lookup x = some .local then findN ct.N x 0 else none) xs with
        | some da, some is => some (sPar is da)
        | _, _ => none
      | none => none
    | e => if isComp e then none else (match evTgt ct (.Tuple ts k p), r.E ct e with
        | some t, some d => some (sAsg t d)
        | _, _ => none)
  | [.Subscript o i _] => if plainI i && !(isComp e) then (match r.E ct e, r.E ct o, r.E ct i with
    | some d, some x, some y => some (sSetI d x y)
    | _, _, _ => none) else none
  | _ => none
where
  mapO (f : Str → Option Nat) : List Str → Option (List Nat)
    | [] => some []
    | x :: xs => match f x, mapO f xs with
      | some i, some is => some (i :: is)
      | _, _ => none
def evRet (r : Recs) (ct : Ct) (e : Expr) : Option Sn := if ct.retM then (match evLstM r ct e with
  | some d => some (sRet d)
  | none => (r.E ct e).map sRet) else (r.E ct e).map sRet
noncomputable def stepS (r : Recs) (f : Ct → Stmt → Option Sn) (ct : Ct) : Stmt → Option Sn
  | .Assign tgs e pos => evAsg r ct tgs e pos
  | .Return (some e) _ => evRet r ct e
  | .Return none _ => some sRetN
  | .If c a b _ => match r.T ct c, evB f ct a, evB f ct b with
    | some t, some x, some y => some (sIf t x y)
    | _, _, _ => none
  | .While c a [] _ => match r.T ct c, evB f ct a with
    | some t, some x => some (sWhl t x)
    | _, _ => none
  | .For tg it a [] _ => if notSet it then (match evTgt ct tg, evIt r ct it, evB f ct a with
    | some t, some d, some x => some (sFor d t x)
    | _, _, _ => none) else none
  | .Pass _ => some sNil
  | .Break _ => some sBrk
  | .Continue _ => some sCnt
  | .Expr (.Constant (.str _) _ _) _ => some sNil
  | .Expr e _ => if isComp e then none else (r.E ct e).map sExpr
  | _ => none
noncomputable def recS (r : Recs) : Nat → Ct → Stmt → Option Sn
  | 0 => fun _ _ => none
  | n + 1 => stepS r (recS r n)
/-- a def's body -/
noncomputable def evBody (ct : Ct) (body : List Stmt) : Option Sn := evB (recS (recs 25) 12) ct body
section
variable {r : Recs} {ct : Ct} {X : Cx} {E : XK}
structure OkS (ct : Ct) (X : Cx) (E : XK) : Prop where
  k : Okx ct X E
  hp : PassesOwn (model X.prog X.w) X.A X.env X.xe
abbrev SoundS (f : Ct → Stmt → Option Sn) : Prop := ∀ ct st d, f ct st = some d → ∀ X E, OkS ct X E → SS X E st d
theorem block_ok {f : Ct → Stmt → Option Sn} (hf : SoundS f) (K : OkS ct X E) : ∀ {b : List Stmt} {d : Sn}, evB f ct b = some d → SB X E b d
  | [], d, h => by cases h; exact sb_nil
  | [s], d, h => sb_one (hf _ _ _ h X E K)
  | s :: s2 :: b, d, h => by
    unfold evB at h
    split at h
    · rename_i x y h1 h2
      cases h
      exact sb_cons (hf _ _ _ h1 X E K) (block_ok hf K h2)
    · cases h
theorem lstM_ok (hr : Sound r) (K : Okx ct X E) {e : Expr} {d : Dn} (h : evLstM r ct e = some d) : SE X E e d := by
  unfold evLstM at h
  split at h
  · obtain ⟨da, h1, h2⟩ := Option.map_eq_some_iff.mp h
    subst h2
    exact se_lstM (args_ok hr K h1).1
  · cases h
theorem mapO_ok {f : Str → Option Nat} : ∀ {xs : List Str} {is : List Nat}, evAsg.mapO f xs = some is → ∃ l : List (Str × Nat), l.map (·.1) = xs ∧ l.map (·.2) = is ∧ ∀ p ∈ l, f p.1 = some p.2
  | [], is, h => by cases h; exact ⟨[], rfl, rfl, fun p hp => (nomatch hp)⟩
  | x :: xs, is, h => by
    unfold evAsg.mapO at h
    split at h
    · rename_i i js h1 h2
      cases h
      obtain ⟨l, e1, e2, e3⟩ := mapO_ok h2
      refine ⟨(x, i) :: l, by rw [List.map_cons, e1], by rw [List.map_cons, e2], fun p hp => ?_⟩
      rcases List.mem_cons.mp hp with e | hp
      · rw [e]; exact h1
      · exact e3 p hp
    · cases h
theorem cell_noswap {elt : Expr} {gs : List Comprehension} {scope : Scope} {cp py : Pos} {x : Str} {l : Nat} {env : Env} (h : env.scope.names.lookup x = some .cell) : swapsWith (.ListComp elt gs scope cp) (some (.Name x py)) l env = pure false := by
  have e : env.kindOf x = some .cell := h
  unfold swapsWith
  simp only [e]
  have z : (some NameKind.cell == some NameKind.local) = false := by decide
  rw [z, Bool.and_false, Bool.false_and, Bool.false_and]
theorem asg_ok (hr : Sound r) (K : OkS ct X E) {tgs : List Expr} {e : Expr} {pos : Pos} {d : Sn} (h : evAsg r ct tgs e pos = some d) : SS X E (.Assign tgs e pos) d := by
  have k := K.k
  have hnd : X.N.Nodup := by rw [k.N]; exact k.nd
  have plain : ∀ {tg : Expr} {t : Tg} {d0 : Dn}, notStar tg = true → isComp e = false → (swappedStores [tg] e X.env = pure none) → STg X tg t → SE X E e d0 → SS X E (.Assign [tg] e pos) (sAsg t d0) := fun hn hc hw ht hd =>
    ss_asg ht hd (noSwapSole hc) hw hn
  unfold evAsg at h
  split at h
  · rename_i x py
    have nosw : ∀ e, swappedStores [.Name x py] e X.env = pure none := fun e => by cases e <;> rfl
    split at h
    · rename_i i hi
      have hN : X.N[i]? = some x := by rw [k.N]; exact findN_ok hi
      split at h
      · rename_i elt gs scope cp
        split at h
        · rename_i hc
          simp only [Bool.and_eq_true, Bool.not_eq_true', decide_eq_true_eq] at hc
          obtain ⟨⟨c1, c2⟩, c3⟩ := hc
          obtain ⟨dd, h1, h2⟩ := Option.map_eq_some_iff.mp h
          subst h2
          obtain ⟨tg, it, ifs, da, vs, t, c, de, rfl, rfl, p1, p2, p3, p4, p5, p6, p7, p8⟩ := comp_parts hr k h1
          have hl : X.env.scope.names.lookup x = some .local := by rw [k.sc]; exact c1
          exact ss_setComp k.calm hnd hN hl (sw_true (by rw [k.sc]; exact k.kind) hl c2 c3) p1 p2 p3 p4 p5 p6 p7 p8
        · split at h
          · rename_i hl
            split at h
            · rename_i t dd h1 h2
              cases h
              have hs : swapsWithSole [.Name x py] (.ListComp elt gs scope cp) pos.line X.env = pure false := cell_noswap (l := pos.line) (by rw [k.sc]; exact hl)
              exact ss_asg (tg0_ok k h1) (comp_ok hr k h2) hs (nosw _) rfl
            · cases h
          · cases h
      · split at h
        · cases h
        · rename_i hcomp
          have hcomp : isComp e = false := by simpa using hcomp
          split at h
          · split at h
            · rename_i t d0 h1 h2
              cases h
              exact plain rfl hcomp (nosw _) (tg0_ok k h1) (lstM_ok hr k h2)
            · cases h
          · split at h
            · rename_i t d0 h1 h2
              cases h
              exact plain rfl hcomp (nosw _) (tg0_ok k h1) (hr.E _ _ _ h2 X E k)
            · cases h
    · cases h
  · rename_i ts kk p
    split at h
    · rename_i es k2 p2
      have hk : X.env.scope.kind = .function := by rw [k.sc]; exact k.kind
      split at h
      · rename_i hsw
        have hw := swF_ok (k := kk) (p := p) (k2 := k2) (p2 := p2) hk (by rw [k.sc]; exact hsw)
        split at h
        · rename_i t d0 h1 h2
          cases h
          exact plain rfl rfl hw (tgt_ok k h1) (hr.E _ _ _ h2 X E k)
        · cases h
      · rename_i xs hsw
        have hw := swF_ok (k := kk) (p := p) (k2 := k2) (p2 := p2) hk (by rw [k.sc]; exact hsw)
        split at h
        · rename_i da is h1 h2
          cases h
          obtain ⟨l, e1, e2, e3⟩ := mapO_ok h2
          subst e1 e2
          refine ss_par k.calm hnd (fun q hq => ?_) (args_ok hr k h1).1 hw
          have := e3 q hq
          split at this
          · rename_i hl
            exact ⟨by rw [k.N]; exact findN_ok this, by rw [k.sc]; exact hl⟩
          · cases this
        · cases h
      · cases h
    · split at h
      · cases h
      · rename_i hnt hcomp
        have hcomp : isComp e = false := by simpa using hcomp
        split at h
        · rename_i t d0 h1 h2
          cases h
          have hw : swappedStores [.Tuple ts kk p] e X.env = pure none := by
            cases e <;> first | rfl | exact absurd rfl (hnt _ _ _)
          exact plain rfl hcomp hw (tgt_ok k h1) (hr.E _ _ _ h2 X E k)
        · cases h
  · split at h
    · rename_i hp
      simp only [Bool.and_eq_true, Bool.not_eq_true'] at hp
      split at h
      · rename_i d0 x y h1 h2 h3
        cases h
        exact ss_setI hp.1 (hr.E _ _ _ h1 X E k) (hr.E _ _ _ h2 X E k) (hr.E _ _ _ h3 X E k) hp.2 (by have := k.un; omega)
      · cases h
    · cases h
  · cases h
theorem ret_ok (hr : Sound r) (K : Okx ct X E) {e : Expr} {pos : Pos} {d : Sn} (h : evRet r ct e = some d) : SS X E (.Return (some e) pos) d := by
  unfold evRet at h
  split at h
  · split at h
    · rename_i d0 h1
      cases h
      exact ss_ret (lstM_ok hr K h1)
    · obtain ⟨d0, h1, h2⟩ := Option.map_eq_some_iff.mp h
      subst h2
      exact ss_ret (hr.E _ _ _ h1 X E K)
  · obtain ⟨d0, h1, h2⟩ := Option.map_eq_some_iff.mp h
    subst h2
    exact ss_ret (hr.E _ _ _ h1 X E K)
theorem stepS_ok (hr : Sound r) {f : Ct → Stmt → Option Sn} (hf : SoundS f) : SoundS (stepS r f) := by
  intro ct st d h X E K
  unfold stepS at h
  split at h
  · exact asg_ok hr K h
  · exact ret_ok hr K.k h
  · cases h; exact ss_retN
  · split at h
    · rename_i t x y h1 h2 h3
      cases h
      exact ss_if (hr.T _ _ _ h1 X E K.k) (block_ok hf K h2) (block_ok hf K h3)
    · cases h
  · split at h
    · rename_i t x h1 h2
      cases h
      exact ss_whl K.hp (hr.T _ _ _ h1 X E K.k) (block_ok hf K h2)
    · cases h
  · split at h
    · rename_i hns
      split at h
      · rename_i t d0 x h1 h2 h3
        cases h
        exact ss_for K.hp K.k.calm (it_ok hr K.k h2) (tgt_ok K.k h1) (block_ok hf K h3) (noFold hns)
      · cases h
    · cases h
  · cases h; exact ss_pass
  · cases h; exact ss_brk
  · cases h; exact ss_cnt
  · cases h; exact ss_doc
  · split at h
    · cases h
    · rename_i hc
      obtain ⟨d0, h1, h2⟩ := Option.map_eq_some_iff.mp h
      subst h2
      exact ss_expr (hr.E _ _ _ h1 X E K.k) (noSwap (by simpa using hc))
  · cases h
theorem recS_ok (hr : Sound r) : ∀ n, SoundS (recS r n)
  | 0 => fun _ _ _ h => (nomatch h)
  | n + 1 => stepS_ok hr (recS_ok hr n)
theorem body_ok (K : OkS ct X E) {b : List Stmt} {d : Sn} (h : evBody ct b = some d) : SB X E b d := block_ok (recS_ok (recs_ok 25) 12) K h
end
end CI
namespace CI
open PySem PySem.Spec PyProof.Rows L2

/-! ### how a call's values come to the parameters -/
theorem opt_rel {α β : Type} {R : α → β → Prop} {xs : List α} {ys : List β} (hl : xs.length = ys.length) (h : ∀ (i : Nat) x y, xs[i]? = some x → ys[i]? = some y → R x y) (i : Nat) :
    (xs[i]? = none ∧ ys[i]? = none) ∨ ∃ x y, xs[i]? = some x ∧ ys[i]? = some y ∧ R x y := by
  by_cases z : i < xs.length
  · exact .inr ⟨_, _, List.getElem?_eq_getElem z, List.getElem?_eq_getElem (by omega), h i _ _ (List.getElem?_eq_getElem z) (List.getElem?_eq_getElem (by omega))⟩
  · exact .inl ⟨by simp; omega, by simp; omega⟩
section
variable {n : Nat} {ks ms : List Str}
theorem pick_vals {us mv ws : List V} {us' mv' ws' : List Value} (r1 : Vals us us') (r2 : Vals mv mv') (r3 : Vals ws ws') : ∀ (ps : List Str) (i : Nat), Vals (pickO n ks ms us mv ws i ps) (pickO n ks ms us' mv' ws' i ps)
  | [], i => .nil
  | p :: r, i => by
    have gen : ∀ {xs : List V} {ys : List Value}, Vals xs ys → ∀ j : Nat, Vals (xs[j]?).toList (ys[j]?).toList := by
      intro xs ys h j
      rcases opt_rel (R := RelV) h.length (fun i x y e1 e2 => by
        obtain ⟨u, e3, q⟩ := h.get e1
        rw [e2] at e3; cases e3; exact q) j with ⟨e1, e2⟩ | ⟨x, y, e1, e2, q⟩
      · rw [e1, e2]; exact .nil
      · rw [e1, e2]; exact .cons q .nil
    unfold pickO
    refine Vals.append ?_ (pick_vals r1 r2 r3 r (i + 1))
    split
    · exact gen r1 _
    · split
      · exact gen r3 _
      · split
        · exact gen r2 _
        · exact .nil
theorem repVs_append {G : Gx} {av α : List Addr} {H : Hp} : ∀ {xs ys : List Va} {us vs : List V}, RepVs G av α H xs us → RepVs G av α H ys vs → RepVs G av α H (xs ++ ys) (us ++ vs)
  | [], ys, us, vs, h, h' => by
    unfold RepVs at h
    subst h; exact h'
  | x :: xs, ys, us, vs, h, h' => by
    unfold RepVs at h
    obtain ⟨v, r, e, a, b⟩ := h
    subst e
    show RepVs G av α H (x :: (xs ++ ys)) (v :: (r ++ vs))
    unfold RepVs
    exact ⟨v, r ++ vs, rfl, a, repVs_append b h'⟩
theorem pick_reps {G : Gx} {av α : List Addr} {H : Hp} {us mv ws : List Va} {us' mv' ws' : List V} (r1 : RepVs G av α H us us') (r2 : RepVs G av α H mv mv') (r3 : RepVs G av α H ws ws') : ∀ (ps : List Str) (i : Nat), RepVs G av α H (pickO n ks ms us mv ws i ps) (pickO n ks ms us' mv' ws' i ps)
  | [], i => by unfold pickO RepVs; rfl
  | p :: r, i => by
    have gen : ∀ {xs : List Va} {ys : List V}, RepVs G av α H xs ys → ∀ j : Nat, RepVs G av α H (xs[j]?).toList (ys[j]?).toList := by
      intro xs ys h j
      rcases opt_rel (R := RepV G av α H) h.length (fun i x y e1 e2 => by
        obtain ⟨u, e3, q⟩ := h.get e1
        rw [e2] at e3; cases e3; exact q) j with ⟨e1, e2⟩ | ⟨x, y, e1, e2, q⟩
      · rw [e1, e2]; show RepVs G av α H [] []; unfold RepVs; rfl
      · rw [e1, e2]
        show RepVs G av α H [x] [y]
        unfold RepVs
        exact ⟨y, [], rfl, q, by unfold RepVs; rfl⟩
    unfold pickO
    refine repVs_append ?_ (pick_reps r1 r2 r3 r (i + 1))
    split
    · exact gen r1 _
    · split
      · exact gen r3 _
      · split
        · exact gen r2 _
        · show RepVs G av α H [] []; unfold RepVs; rfl
/-- each parameter gets a value -/
def pickC (n : Nat) (ks ms : List Str) : Nat → List Str → Bool
  | _, [] => true
  | i, p :: r => (decide (i < n) || (findN ks p 0).isSome || (findN ms p 0).isSome) && pickC n ks ms (i + 1) r
theorem pick_len {α : Type} {us mv ws : List α} (h1 : us.length = n) (h2 : mv.length = ms.length) (h3 : ws.length = ks.length) : ∀ {ps : List Str} {i : Nat}, pickC n ks ms i ps = true → (pickO n ks ms us mv ws i ps).length = ps.length
  | [], i, _ => rfl
  | p :: r, i, h => by
    unfold pickC at h
    rw [Bool.and_eq_true] at h
    unfold pickO
    rw [List.length_append, pick_len h1 h2 h3 h.2]
    have one : ∀ {xs : List α} {j : Nat}, j < xs.length → (xs[j]?).toList.length = 1 := fun {xs j} z => by rw [List.getElem?_eq_getElem z]; rfl
    have e : ∀ {l : List α}, l.length = 1 → l.length + r.length = (p :: r).length := fun z => by rw [z, List.length_cons]; omega
    refine e ?_
    have fl : ∀ {l : List Str} {j : Nat}, findN l p 0 = some j → j < l.length := fun q => (List.getElem?_eq_some_iff.mp (findN_ok q)).1
    split
    · rename_i z; exact one (by omega)
    · rename_i z
      split
      · rename_i j q; exact one (by rw [h3]; exact fl q)
      · rename_i q
        split
        · rename_i j q2; exact one (by rw [h2]; exact fl q2)
        · rename_i q2
          have := h.1
          rw [q, q2, decide_eq_false z] at this
          cases this
end
section
variable {K : PySem.W.Frag} {mg : Str → Option Value} {x qual : Str} {params : Arguments} {body : List Stmt} {scope : Scope} {dvs : List V} {kws : List (Str × V)} {f : Addr} {fd : FuncData}
/-- a constant and the value it stands for -/
def constV : Pv → Option V
  | .non => some .non
  | .bl b => some (.bl b)
  | .int i => some (.int i)
  | .str s => some (.str s)
  | _ => none
theorem constV_rep {G : Gx} {av : List Addr} {H : Hp} {p : Pv} {v : V} (h : constV p = some v) : RepP G av H p v := by
  cases p <;> first | (cases h; unfold RepP; rfl) | cases h
theorem consts_rep {G : Gx} {av α : List Addr} {H : Hp} : ∀ {ms : List (Str × Pv)} {mv : List (Str × V)}, (ms.map fun q => (q.1, constV q.2)) = (mv.map fun q => (q.1, some q.2)) → RepVs G av α H (ms.map fun q => .pv q.2) (mv.map (·.2)) ∧ ms.map (·.1) = mv.map (·.1)
  | [], [], _ => ⟨by show RepVs G av α H [] []; unfold RepVs; rfl, rfl⟩
  | [], _ :: _, h => by cases h
  | _ :: _, [], h => by cases h
  | m :: ms, v :: mv, h => by
    injection h with h1 h2
    injection h1 with h3 h4
    obtain ⟨a, b⟩ := consts_rep h2
    refine ⟨?_, by show m.1 :: _ = v.1 :: _; rw [h3, b]⟩
    show RepVs G av α H (.pv m.2 :: ms.map fun q => .pv q.2) (v.2 :: mv.map (·.2))
    unfold RepVs
    exact ⟨_, _, rfl, constV_rep h4, a⟩
/-- no defaults are looked up -/
theorem callOk0 {i : FnI} {n : Nat} {ks : List Str} (F : FunD K x qual params body scope [] kws f fd) (hm : lackF i ks = []) (hc : pickC n ks [] 0 i.ps = true)
    (h : ∀ (kV doc pm : Value) (an : Option Addr) (cdv ct : Value) (us ws : List Value), us.length = n → ws.length = ks.length → bindArgs (PySem.W.fnOf x qual params body scope .none kV doc pm an cdv ct) ⟨us, ks.zip ws⟩ = pure (i.ps.zip (pickO n ks [] us [] ws 0 i.ps))) :
    CallOk ⟨K, mg⟩ fd i.ps n ks (asmF i n ks) := by
  obtain ⟨oc, od, dV, kV, doc, pm, an, cdv, ct, osl, rfl, lk, hcd, hD, hK⟩ := F.ex
  rcases hD with ⟨_, rfl⟩ | ⟨e, _⟩
  · refine ⟨⟨fun us ws => pickO n ks [] us [] ws 0 i.ps, fun us ws => pickO n ks [] us [] ws 0 i.ps, ⟨fun s us ws _ l1 l2 => .of_eq (h kV doc pm an cdv ct us ws l1 l2), fun r1 r2 => pick_vals r1 .nil r2 _ _⟩, fun vs zs l1 l2 => pick_len l1 rfl l2 hc, fun av α H us vs ws zs l1 l2 r1 r2 => ?_⟩⟩
    unfold asmF asmP
    rw [show lackP i.dfl ks = [] from hm]
    exact pick_reps r1 (by show RepVs _ av α H [] []; unfold RepVs; rfl) r2 _ _
  · exact absurd rfl e
/-- keyword-only defaults ms are looked up -/
theorem callOkK {i : FnI} {n : Nat} {ks : List Str} {ms : List (Str × V)} (F : FunD K x qual params body scope [] kws f fd) (hk : kws ≠ []) (hms : ∀ q ∈ ms, q ∈ kws) (hm : ((lackF i ks).map fun q => (q.1, constV q.2)) = (ms.map fun q => (q.1, some q.2))) (hc : pickC n ks (ms.map (·.1)) 0 i.ps = true)
    (h : ∀ (D : Addr) (doc pm : Value) (an : Option Addr) (cdv ct : Value) (us mv ws : List Value), us.length = n → mv.length = ms.length → ws.length = ks.length →
      KwChain D ((ms.map (·.1)).zip mv) (bindArgs (PySem.W.fnOf x qual params body scope .none (.ref D) doc pm an cdv ct) ⟨us, ks.zip ws⟩) (i.ps.zip (pickO n ks (ms.map (·.1)) us mv ws 0 i.ps))) :
    CallOk ⟨K, mg⟩ fd i.ps n ks (asmF i n ks) := by
  obtain ⟨mv, B⟩ := FunD.kbinds0 F n ks ms (fun us mv ws => pickO n ks (ms.map (·.1)) us mv ws 0 i.ps) hk hms (fun r1 r2 r3 => pick_vals r1 r2 r3 _ _) h
  refine ⟨⟨_, _, B, fun vs zs l1 l2 => pick_len l1 (by simp) l2 hc, fun av α H us vs ws zs l1 l2 r1 r2 => ?_⟩⟩
  obtain ⟨c1, c2⟩ := consts_rep (G := ⟨K, mg⟩) (av := av) (α := α) (H := H) hm
  unfold asmF asmP
  rw [c2]
  exact pick_reps r1 c1 r2 _ _
end

/-! ### the defs -/
/-- a def that stands -/
def DefsG (P : Program) (w : World) (K : PySem.W.Frag) (mg : Str → Option Value) (base : Heap) (k : Nat) (i : FnI) : Prop :=
  ∃ f fd, mg i.x = some (.ref f) ∧ PySem.W.keepIn K (.ref f) = true ∧ FnG P w K mg base k f fd i.ps (spF ⟨K, mg⟩ i.ps.length i.F) ∧ ∀ q ∈ i.pats, CallOk ⟨K, mg⟩ fd i.ps q.1 q.2 (asmF i q.1 q.2)
section
variable {P : Program} {w : World} {K : PySem.W.Frag} {mg : Str → Option Value} {base : Heap} {x qual : Str} {params : Arguments} {body : List Stmt} {scope : Scope} {dvs : List V} {kws : List (Str × V)} {f : Addr} {fd : FuncData}
theorem DefsG.mono {j k : Nat} {i : FnI} (h : DefsG P w K mg base j i) (hj : j ≤ k) : DefsG P w K mg base k i := by
  obtain ⟨f, fd, a, b, c, d⟩ := h
  exact ⟨f, fd, a, b, c.mono hj, d⟩
theorem fn_ok {ct : Ct} {k : Nat} {b : Sn} {ps : List Str} (F : FunD K x qual params body scope dvs kws f fd) (S : FnScope ct.N ps scope) (hsc : ct.sc = scope) (hblk : ct.blk = none) (hb : evBody ct body = some b)
    (hfns : ∀ j ∈ ct.fns, DefsG P w K mg base k j) (hgls : ∀ g ∈ ct.gls, ∃ u v, mg g.1 = some u ∧ RelV v u ∧ Stat ⟨K, mg⟩ g.2 v) (hbis : ∀ y ∈ ct.bis, mg y = none) :
    FnG P w K mg base (k + 1) f fd ps (spF ⟨K, mg⟩ ps.length (fnOfB ct.N.length b)) := by
  obtain ⟨oc, od, dV, kV, doc, pm, an, cdv, ct2, osl, rfl, lk, hcd, hD, hK⟩ := F.ex
  refine fnG_of lk hcd S (fun vs H Q E h => h.1) fun A outer s H vs Q E hr hg hsp => ?_
  have Y : Okx ct (cxOf (L2.CX P w) P w K mg base ct.N qual scope f cdv A outer s H E) E := {
    N := rfl
    nd := S.nd
    sc := hsc.symm
    kind := by rw [hsc]; exact S.kind
    calm := rfl
    fn := by rw [hblk]; exact fun _ => rfl
    gd := deeper_guards hg
    un := hr.units
    ps := passes_call (takes_of rfl rfl rfl rfl) (fun _ _ _ _ h => h)
    fns := fun j hj q hq => by
      obtain ⟨f2, fd2, a, b2, c, d⟩ := hfns j hj
      exact ⟨k, hr, ⟨⟨f2, fd2, a, b2, c, d q hq⟩⟩⟩
    gls := hgls
    bis := hbis }
  exact ⟨_, body_ok (ct := ct) ⟨Y, passes_of rfl⟩ hb, body_rd hsp⟩
theorem def_ok {ct : Ct} {k : Nat} {b : Sn} {i : FnI} (F : FunD K x qual params body scope dvs kws f fd) (S : FnScope ct.N i.ps scope) (hsc : ct.sc = scope) (hblk : ct.blk = none) (hb : evBody ct body = some b) (hF : i.F = fnOfB ct.N.length b)
    (hm : mg i.x = some (.ref f)) (hcalls : ∀ q ∈ i.pats, CallOk ⟨K, mg⟩ fd i.ps q.1 q.2 (asmF i q.1 q.2))
    (hfns : ∀ j ∈ ct.fns, DefsG P w K mg base k j) (hgls : ∀ g ∈ ct.gls, ∃ u v, mg g.1 = some u ∧ RelV v u ∧ Stat ⟨K, mg⟩ g.2 v) (hbis : ∀ y ∈ ct.bis, mg y = none) : DefsG P w K mg base (k + 1) i :=
  ⟨f, fd, hm, F.kp, by rw [hF]; exact fn_ok F S hsc hblk hb hfns hgls hbis, hcalls⟩
end
/-- of each of a few -/
theorem allN {α : Type} {Z : α → Prop} : ∀ j ∈ ([] : List α), Z j := fun _ h => nomatch h
theorem allC {α : Type} {Z : α → Prop} {a : α} {l : List α} (h : Z a) (t : ∀ j ∈ l, Z j) : ∀ j ∈ a :: l, Z j := fun j m => by
  rcases List.mem_cons.mp m with e | m
  · rw [e]; exact h
  · exact t j m
end CI

namespace CI
open PySem PySem.Spec PyProof.Rows L2
/-! ### the law's end -/
/-- what the law's def is to tell -/
def LawSays (F : Fn) (n : Nat) : Prop := ∀ ns : List Int, ns.length ≤ n → ∃ h, F [.pv (.scr ns)] [] = .ok (.pv (.bl true)) h
theorem spF_law {G : Gx} {F : Fn} {n : Nat} {H : Hp} {a : Addr} {ns : List Int} (h : LawSays F n) (hn : ns.length ≤ n) (hS : SqL G.K H a (ns.map V.int)) : spF G 1 F [.ref a] H (fun v _ => v = .bl true) fun _ _ _ => False := by
  obtain ⟨h', e⟩ := h ns hn
  refine ⟨rfl, [], [], [], [.pv (.scr ns)], ⟨rfl, List.nodup_nil, fun a m => by simp [own] at m, fun a m => (by cases m), fun a m => (by cases m), fun r a ob e => by simp at e⟩, ?_, ?_⟩
  · unfold RepVs
    refine ⟨.ref a, [], rfl, ?_, by unfold RepVs; rfl⟩
    unfold RepV RepP
    refine ⟨a, rfl, ?_⟩
    rcases hS with hS | hS
    · exact .inl ⟨hS, by simp [own]⟩
    · exact .inr hS
  · rw [e]
    intro α' u H' _ _ q
    unfold rV RepV RepP at q
    exact q
section
variable {P : Program} {w : World} {K : PySem.W.Frag} {mg mb : Str → Option Value} {s1 : Shared} {a : Addr} {its : List Value} {ns : List Int}
/-- the module's heap, what H tracks left out -/
theorem mod_hid {H : Hp} (KX : K.In s1.heap) (hns : s1.heap.Ns mainGlobals mg) (hb : s1.heap.Ns builtinsNs mb) (hbb : ∀ y : Str, y ≠ "__name__" → mb y = bootBuiltins y) (hlim : s1.heap.NoLimit)
    (ha : s1.heap.get? a = some { cls := .type "list", data := .seq its.toArray }) (only : ∀ b, H b ≠ none → b = a ∧ K.lookup a = none) : Mod K mg (hidT s1.heap H) ∧ (hidT s1.heap H).Ns mainGlobals mg := by
  have free : ∀ {b : Addr}, (H b ≠ none → False) → H b = none := fun {b} z => Classical.byContradiction z
  have ns : ∀ {b : Addr} {m : Str → Option Value}, s1.heap.Ns b m → (hidT s1.heap H).Ns b m := by
    rintro b m ⟨o, es, ep, e, d, r⟩
    refine ⟨o, es, ep, hidT_get e (free fun z => ?_), d, r⟩
    obtain ⟨q, _⟩ := only b z
    rw [q, ha] at e
    cases e
    exact nomatch (show Data.seq its.toArray _ = Data.dict es ep from d)
  refine ⟨⟨fun b o e => hidT_get (KX b o e) (free fun z => ?_), ns hns, ⟨mb, ns hb, hbb⟩, ?_⟩, ns hns⟩
  · obtain ⟨q, q2⟩ := only b z
    rw [q, q2] at e; cases e
  · obtain ⟨mc, h1, h2⟩ := hlim
    exact ⟨mc, ns h1, h2⟩
/-- one call of the law's def -/
theorem law_run {k : Nat} {fa : Addr} {fd : FuncData} {y : Str} {sp : Sp} {H : Hp} (KX : K.In s1.heap) (hns : s1.heap.Ns mainGlobals mg) (hb : s1.heap.Ns builtinsNs mb) (hbb : ∀ y : Str, y ≠ "__name__" → mb y = bootBuiltins y) (hlim : s1.heap.NoLimit) (hgen : s1.gens = #[])
    (ha : s1.heap.get? a = some { cls := .type "list", data := .seq its.toArray }) (only : ∀ b, H b ≠ none → b = a ∧ K.lookup a = none) (hok : HOk P w H s1.heap) (hO : Only H) (hr : Room k callerA)
    (F : ∀ B : Heap, K.In B → B.Ns mainGlobals mg → FnG P w K mg B k fa fd [y] sp) (hbind : ∀ (s : Shared) (u : Value), BindsTo s fd ⟨[u], []⟩ [(y, u)])
    (hsp : sp [.ref a] H (fun v _ => v = .bl true) fun _ _ _ => False) :
    codeAny (model P w) callerA (.call (.ref fa) ⟨[.ref a], []⟩) (fun r z => r = .ok (.ret (.bool true)) ∧ OldK s1.heap z.heap ∧ z.os = s1.os ∧ AllBare z.gens) s1 := by
  obtain ⟨hM, hN⟩ := mod_hid KX hns hb hbb hlim ha only
  have e0 : Env0 P w K mg (hidT s1.heap H) callerA [] s1 H :=
    ⟨rfl, hM, fun b o e => of_hidT e, Nat.le_of_eq (hidT_size _ _), trivial, fun b z => (by exact absurd (show b ∈ ([] : List Addr) from z) (by simp)), hok, .of_eq hgen⟩
  refine codeAny_mono ((F _ hM.kin hN).run callerA [] s1 H ⟨[.ref a], []⟩ [.ref a] [.ref a] _ _ hr rfl e0 (hbind s1 (.ref a)) (.cons rfl .nil) hsp) ?_
  intro r z h
  rcases r with e | fl
  · obtain ⟨_, _, _, _, _, _, _, _, _, _, _, _, q⟩ := h
    exact q.elim
  · cases fl with
    | ret u =>
      obtain ⟨v, H2, os, bare, un, hok2, rv, q⟩ := h
      have qv : v = .bl true := q
      rw [qv] at rv
      have hu : u = Value.bool true := rv
      subst hu
      refine ⟨rfl, OldK.of_keep fun b o e => ?_, os, bare⟩
      rcases hO b with q1 | ⟨o1, xs, q1⟩
      · exact un.keep b o e q1 (fun z => absurd (show b ∈ ([] : List Addr) from z) (by simp)) (by simp)
      · have q2 := (hok b _ q1).1
        rw [e] at q2
        cases q2
        exact (hok2 b _ (un.frzs b _ _ q1)).1
    | next => exact absurd h (fun z => z)
    | brk => exact absurd h (fun z => z)
    | cont => exact absurd h (fun z => z)
theorem law_end {k n : Nat} {fa : Addr} {fd : FuncData} {y : Str} {Fl : Fn} (KX : K.In s1.heap) (hns : s1.heap.Ns mainGlobals mg) (hb : s1.heap.Ns builtinsNs mb) (hbb : ∀ y : Str, y ≠ "__name__" → mb y = bootBuiltins y) (hlim : s1.heap.NoLimit) (hgen : s1.gens = #[])
    (ha : s1.heap.get? a = some { cls := .type "list", data := .seq its.toArray }) (hi : IntsAre its ns) (hl : ns.length ≤ n) (hn : n ≤ sizeLine) (hr : Room k callerA)
    (F : ∀ B : Heap, K.In B → B.Ns mainGlobals mg → FnG P w K mg B k fa fd [y] (spF ⟨K, mg⟩ 1 Fl)) (hbind : ∀ (s : Shared) (u : Value), BindsTo s fd ⟨[u], []⟩ [(y, u)]) (hF : LawSays Fl n) :
    codeAny (model P w) callerA (.call (.ref fa) ⟨[.ref a], []⟩) (fun r z => r = .ok (.ret (.bool true)) ∧ OldK s1.heap z.heap ∧ z.os = s1.os ∧ AllBare z.gens) s1 := by
  have rv := vals_ints hi
  have ln := hi.length
  have go : ∀ H : Hp, (∀ b, H b ≠ none → b = a ∧ K.lookup a = none) → HOk P w H s1.heap → Only H → SqL K H a (ns.map V.int) → _ := fun H only hok hO hS =>
    law_run KX hns hb hbb hlim hgen ha only hok hO hr F hbind (spF_law (G := ⟨K, mg⟩) (F := Fl) hF hl hS)
  cases q : K.lookup a with
  | some o =>
    have e := KX a o q
    rw [ha] at e
    cases e
    refine go (fun _ => none) (fun b z => absurd rfl z) (fun b u z => nomatch (show (none : Option HO) = some u from z)) (fun _ => .inl rfl) (.inr ?_)
    exact ⟨_, its.toArray, _, q, rfl, rfl, rfl, by simp; omega, by simpa using rv⟩
  | none =>
    have at1 : ∀ {b : Addr} {u : HO}, (if b = a then some (HO.frz { cls := .type "list", data := .seq its.toArray } (.lst (ns.map V.int))) else none) = some u → b = a ∧ u = HO.frz { cls := .type "list", data := .seq its.toArray } (.lst (ns.map V.int)) := by
      intro b u z
      split at z
      · rename_i e; cases z; exact ⟨e, rfl⟩
      · cases z
    refine go (fun b => if b = a then some (.frz { cls := .type "list", data := .seq its.toArray } (.lst (ns.map V.int))) else none) (fun b z => ?_) (fun b u z => ?_) (fun b => ?_) (.inl (.inr ⟨_, if_pos rfl⟩))
    · obtain ⟨u, e⟩ := Option.ne_none_iff_exists'.mp z
      exact ⟨(at1 e).1, q⟩
    · obtain ⟨rfl, rfl⟩ := at1 z
      exact ⟨ha, by rw [List.length_map]; omega, its, _, rv, ha⟩
    · by_cases e : b = a
      · exact .inr ⟨_, _, if_pos e⟩
      · exact .inl (if_neg e)
end
/-- the law, from the def's reading -/
theorem walkG {l : PySem.W.OpenLaw} {n k : Nat} {q : Program} {loose : List Str} {XP : (Str → Option Value) → Heap → Prop} {YP : World → Heap → Prop} {d : DefRec} {y : Str} {Fl : Fn}
    (hn : l.most = some n) (hn2 : n ≤ sizeLine) (hdf : d.params.defaults = []) (hr : Room k callerA)
    (F : ∀ (w : World) (mg : Str → Option Value) (fa : Addr) (h : Heap), YP w h → h.Ns mainGlobals mg → mg d.name = some (.ref fa) →
      ∃ (K : PySem.W.Frag) (fd : FuncData), K.In h ∧ (∀ (s : Shared) (u : Value), BindsTo s fd ⟨[u], []⟩ [(y, u)]) ∧ ∀ B : Heap, K.In B → B.Ns mainGlobals mg → FnG l.prog w K mg B k fa fd [y] (spF ⟨K, mg⟩ 1 Fl))
    (hF : LawSays Fl n) : PySem.W.WalkO q loose XP YP l.row.toRowW d [] (fun f vs => PySem.call f vs) := by
  refine Att.attach_call hn hdf ?_
  intro w s0 s1 mg mb fa o pm cd doc a its ns G Y ho hd hcd hmg hobj hints hlen hgen
  obtain ⟨K, fd, KX, hb, hG⟩ := F w mg fa _ Y G.T.g hmg
  exact law_end KX G.T.g G.T.b G.T.builtins G.T.nolimit hgen hobj hints hlen hn2 hr hG hb hF
end CI
namespace R
open PySem PySem.Spec PyProof.Rows L2 CI
abbrev ps_common : List Str := [("one" : Str), ("other" : Str)]
abbrev n_common : List Str := [("one" : Str), ("other" : Str)]
def a_common (n : Nat) (ks : List Str) : List Va → List Va → List Va := asmP ps_common [] n ks
noncomputable def b_common : Sn := (sSeq (sWhl (tVB (dBin oGt (dVar 1) (dC (.int 0)))) (sPar [0, 1] (daCons (dVar 1) (daCons (dBin oMod (dVar 0) (dVar 1)) daNil))))
    (sRet (dVar 0)))
noncomputable def F_common : Fn := fnOfB 2 b_common

abbrev ps_lowest : List Str := [("top" : Str), ("under" : Str)]
abbrev n_lowest : List Str := [("top" : Str), ("under" : Str), ("part" : Str)]
def a_lowest (n : Nat) (ks : List Str) : List Va → List Va → List Va := asmP ps_lowest [] n ks
noncomputable def b_lowest : Sn := (sSeq (sAsg (gNm 2) (dCallP R.F_common 2 0 (R.a_common 2 []) (daCons (dBi bAbs (daCons (dVar 0) daNil)) (daCons (dBi bAbs (daCons (dVar 1) daNil)) daNil)) daNil))
    (sSeq (sIf (tVB (dBin oLt (dVar 1) (dC (.int 0)))) (sAsg (gNm 2) (dNeg (dVar 2))) sNil)
    (sRet (dTup (daCons (dBin oDiv (dVar 0) (dVar 2)) (daCons (dBin oDiv (dVar 1) (dVar 2)) daNil))))))
noncomputable def F_lowest : Fn := fnOfB 3 b_lowest

abbrev ps_plus : List Str := [("one" : Str), ("other" : Str)]
abbrev n_plus : List Str := [("one" : Str), ("other" : Str)]
def a_plus (n : Nat) (ks : List Str) : List Va → List Va → List Va := asmP ps_plus [] n ks
noncomputable def b_plus : Sn := (sRet (dCallP R.F_lowest 2 0 (R.a_lowest 2 []) (daCons (dBin oAdd (dBin oMul (dBin oIdx (dVar 0) (dC (.int 0))) (dBin oIdx (dVar 1) (dC (.int 1)))) (dBin oMul (dBin oIdx (dVar 1) (dC (.int 0))) (dBin oIdx (dVar 0) (dC (.int 1))))) (daCons (dBin oMul (dBin oIdx (dVar 0) (dC (.int 1))) (dBin oIdx (dVar 1) (dC (.int 1)))) daNil)) daNil))
noncomputable def F_plus : Fn := fnOfB 2 b_plus

abbrev ps_minus : List Str := [("one" : Str), ("other" : Str)]
abbrev n_minus : List Str := [("one" : Str), ("other" : Str)]
def a_minus (n : Nat) (ks : List Str) : List Va → List Va → List Va := asmP ps_minus [] n ks
noncomputable def b_minus : Sn := (sRet (dCallP R.F_plus 2 0 (R.a_plus 2 []) (daCons (dVar 0) (daCons (dTup (daCons (dNeg (dBin oIdx (dVar 1) (dC (.int 0)))) (daCons (dBin oIdx (dVar 1) (dC (.int 1))) daNil))) daNil)) daNil))
noncomputable def F_minus : Fn := fnOfB 2 b_minus

abbrev ps_many_coins : List Str := [("top" : Str), ("under" : Str), ("coin" : Str), ("rule" : Str)]
abbrev n_many_coins : List Str := [("top" : Str), ("under" : Str), ("coin" : Str), ("rule" : Str), ("size" : Str), ("low" : Str), ("rest" : Str)]
def a_many_coins (n : Nat) (ks : List Str) : List Va → List Va → List Va := asmP ps_many_coins [] n ks
noncomputable def b_many_coins : Sn := (sSeq (sAsg (gNm 4) (dBin oMul (dVar 1) (dVar 2)))
    (sSeq (sAsg (gTu 2 (gsCons (gNm 5) (gsCons (gNm 6) gsNil))) (dBi bDivmod (daCons (dVar 0) (daCons (dVar 4) daNil))))
    (sSeq (sIf (tOr (tVB (dBin (oEqN false) (dVar 6) (dC (.int 0)))) (tVB (dBin (oEqN false) (dVar 3) (dC (.str ("down" : Str)))))) (sRet (dVar 5)) sNil)
    (sSeq (sIf (tVB (dBin (oEqN false) (dVar 3) (dC (.str ("up" : Str))))) (sRet (dBin oAdd (dVar 5) (dC (.int 1)))) sNil)
    (sSeq (sIf (tVB (dBin (oEqN true) (dBin oMul (dC (.int 2)) (dVar 6)) (dVar 4))) (sRet (dBin oAdd (dVar 5) (dBi bInt (daCons (dBin oGt (dBin oMul (dC (.int 2)) (dVar 6)) (dVar 4)) daNil)))) sNil)
    (sSeq (sIf (tVB (dBin (oEqN false) (dVar 3) (dC (.str ("even" : Str))))) (sRet (dBin oAdd (dVar 5) (dBin oMod (dVar 5) (dC (.int 2))))) sNil)
    (sRet (dBin oAdd (dVar 5) (dBi bInt (daCons (dBin (oEqN false) (dVar 3) (dC (.str ("upper" : Str)))) daNil))))))))))
noncomputable def F_many_coins : Fn := fnOfB 7 b_many_coins

abbrev ps_rounded : List Str := [("ratio" : Str), ("coin" : Str), ("rule" : Str)]
abbrev n_rounded : List Str := [("ratio" : Str), ("coin" : Str), ("rule" : Str), ("top" : Str), ("under" : Str)]
def a_rounded (n : Nat) (ks : List Str) : List Va → List Va → List Va := asmP ps_rounded [(("coin" : Str), (.int 1)), (("rule" : Str), (.str ("down" : Str)))] n ks
noncomputable def b_rounded : Sn := (sSeq (sAsg (gTu 2 (gsCons (gNm 3) (gsCons (gNm 4) gsNil))) (dVar 0))
    (sRet (dBin oMul (dVar 1) (dCallP R.F_many_coins 4 0 (R.a_many_coins 4 []) (daCons (dVar 3) (daCons (dVar 4) (daCons (dVar 1) (daCons (dVar 2) daNil)))) daNil))))
noncomputable def F_rounded : Fn := fnOfB 5 b_rounded

abbrev ps_left : List Str := [("ratio" : Str), ("coin" : Str), ("rule" : Str)]
abbrev n_left : List Str := [("ratio" : Str), ("coin" : Str), ("rule" : Str)]
def a_left (n : Nat) (ks : List Str) : List Va → List Va → List Va := asmP ps_left [(("coin" : Str), (.int 1)), (("rule" : Str), (.str ("down" : Str)))] n ks
noncomputable def b_left : Sn := (sRet (dCallP R.F_minus 2 0 (R.a_minus 2 []) (daCons (dVar 0) (daCons (dTup (daCons (dCallP R.F_rounded 1 2 (R.a_rounded 1 [("coin" : Str), ("rule" : Str)]) (daCons (dVar 0) daNil) (daCons (dVar 1) (daCons (dVar 2) daNil))) (daCons (dC (.int 1)) daNil))) daNil)) daNil))
noncomputable def F_left : Fn := fnOfB 3 b_left

abbrev ps_q_bag : List Str := [("_law_script" : Str), ("_law_at" : Str)]
abbrev n_q_bag : List Str := [("_law_script" : Str), ("_law_at" : Str), ("_law_great" : Str), ("_law_prime" : Str)]
def a_q_bag (n : Nat) (ks : List Str) : List Va → List Va → List Va := asmP ps_q_bag [] n ks
noncomputable def b_q_bag : Sn := (sSeq (sAsg (gNm 2) (dC (.int 0)))
    (sSeq (sIf (tVB (dBin oLt (dVar 1) (dBi bLen (daCons (dVar 0) daNil)))) (sAsg (gNm 2) (dBi bAbs (daCons (dBin oIdx (dVar 0) (dVar 1)) daNil))) sNil)
    (sSeq (sAsg (gNm 3) (dBin oIdx (dLst (daCons (dC (.int 2147483629)) (daCons (dC (.int 2147483587)) (daCons (dC (.int 2147483579)) (daCons (dC (.int 2147483563)) (daCons (dC (.int 2147483549)) (daCons (dC (.int 2147483543)) (daCons (dC (.int 2147483497)) (daCons (dC (.int 2147483489)) daNil))))))))) (dBin oMod (dVar 1) (dC (.int 8)))))
    (sRet (dLstM (daCons (dBin oMul (dVar 2) (dBi bInt (daCons (dBin oGe (dVar 2) (dBin oPow (dC (.int 10)) (dC (.int 18)))) daNil))) (daCons (dBin oMod (dBin oPow (dBin oAdd (dBin oAdd (dBin oMod (dVar 2) (dC (.int 2147483647))) (dBin oMul (dC (.int 104729)) (dVar 1))) (dC (.int 7))) (dC (.int 5))) (dVar 3)) (daCons (dVar 3) (daCons (dC (.int 0)) daNil)))))))))
noncomputable def F_q_bag : Fn := fnOfB 4 b_q_bag

abbrev ps_q_take : List Str := [("_law_bag_here" : Str), ("_law_many" : Str)]
abbrev n_q_take : List Str := [("_law_bag_here" : Str), ("_law_many" : Str), ("_law_digit" : Str)]
def a_q_take (n : Nat) (ks : List Str) : List Va → List Va → List Va := asmP ps_q_take [] n ks
noncomputable def b_q_take : Sn := (sSeq (sIf (tVB (dBin oGt (dBin oIdx (dVar 0) (dC (.int 0))) (dC (.int 0)))) (sSeq (sAsg (gNm 2) (dBin oMod (dBin oIdx (dVar 0) (dC (.int 0))) (dVar 1)))
    (sSeq (sSetI (dBin oDiv (dBin oIdx (dVar 0) (dC (.int 0))) (dVar 1)) (dVar 0) (dC (.int 0)))
    (sRet (dVar 2)))) sNil)
    (sSeq (sSetI (dBin oAdd (dBin oIdx (dVar 0) (dC (.int 3))) (dC (.int 1))) (dVar 0) (dC (.int 3)))
    (sSeq (sSetI (dBin oMod (dBin oAdd (dBin oAdd (dBin oMul (dBin oIdx (dVar 0) (dC (.int 1))) (dC (.int 48271))) (dBin oMul (dC (.int 7919)) (dBin oIdx (dVar 0) (dC (.int 3))))) (dC (.int 11))) (dBin oIdx (dVar 0) (dC (.int 2)))) (dVar 0) (dC (.int 1)))
    (sRet (dBin oMod (dBin oMod (dBin oPow (dBin oDiv (dBin oIdx (dVar 0) (dC (.int 1))) (dC (.int 8))) (dC (.int 3))) (dC (.int 2147483629))) (dVar 1))))))
noncomputable def F_q_take : Fn := fnOfB 3 b_q_take

abbrev ps_q_wide : List Str := [("_law_bag_here" : Str), ("_law_many" : Str)]
abbrev n_q_wide : List Str := [("_law_bag_here" : Str), ("_law_many" : Str), ("_law_found" : Str), ("_law_turn" : Str)]
def a_q_wide (n : Nat) (ks : List Str) : List Va → List Va → List Va := asmP ps_q_wide [] n ks
noncomputable def b_q_wide : Sn := (sSeq (sAsg (gNm 2) (dC (.int 0)))
    (sSeq (sFor (iRng1 (daCons (dC (.int 5)) daNil)) (gNm 3) (sAsg (gNm 2) (dBin oAdd (dBin oMul (dVar 2) (dBin oPow (dC (.int 10)) (dC (.int 9)))) (dCall R.F_q_take 2 0 (R.a_q_take 2 []) (daCons (dVar 0) (daCons (dBin oPow (dC (.int 10)) (dC (.int 9))) daNil)) daNil))))
    (sRet (dBin oMod (dVar 2) (dVar 1)))))
noncomputable def F_q_wide : Fn := fnOfB 4 b_q_wide

abbrev ps_q_gcd : List Str := [("_law_one" : Str), ("_law_two" : Str)]
abbrev n_q_gcd : List Str := [("_law_one" : Str), ("_law_two" : Str)]
def a_q_gcd (n : Nat) (ks : List Str) : List Va → List Va → List Va := asmP ps_q_gcd [] n ks
noncomputable def b_q_gcd : Sn := (sSeq (sWhl (tVB (dBin oGt (dVar 1) (dC (.int 0)))) (sPar [0, 1] (daCons (dVar 1) (daCons (dBin oMod (dVar 0) (dVar 1)) daNil))))
    (sRet (dVar 0)))
noncomputable def F_q_gcd : Fn := fnOfB 2 b_q_gcd

abbrev ps_is_whole : List Str := [("thing" : Str)]
abbrev n_is_whole : List Str := [("thing" : Str)]
def a_is_whole (n : Nat) (ks : List Str) : List Va → List Va → List Va := asmP ps_is_whole [] n ks
noncomputable def b_is_whole : Sn := (sRet (dAnd (dBi bIsi (daCons (dVar 0) (daCons (dC (.ty "int")) daNil))) (dNot (dBi bIsi (daCons (dVar 0) (daCons (dC (.ty "bool")) daNil))))))
noncomputable def F_is_whole : Fn := fnOfB 1 b_is_whole

abbrev ps_is_ratio : List Str := [("thing" : Str)]
abbrev n_is_ratio : List Str := [("thing" : Str), ("top" : Str), ("under" : Str), ("number" : Str)]
def a_is_ratio (n : Nat) (ks : List Str) : List Va → List Va → List Va := asmP ps_is_ratio [] n ks
noncomputable def b_is_ratio : Sn := (sSeq (sIf (tOr (tNot (tVal (dBi bIsi (daCons (dVar 0) (daCons (dC (.ty "tuple")) daNil))))) (tOr (tVB (dBin (oEqN true) (dBi bLen (daCons (dVar 0) daNil)) (dC (.int 2)))) (tNot (tVal (dBi bAll (daCons (dComp (iSeq (dVar 0)) [3] (gNm 3) tYesD (dCallP R.F_is_whole 1 0 (R.a_is_whole 1 []) (daCons (dVar 3) daNil) daNil)) daNil)))))) (sRet (dC (.bl false))) sNil)
    (sSeq (sAsg (gTu 2 (gsCons (gNm 1) (gsCons (gNm 2) gsNil))) (dVar 0))
    (sRet (dAnd (dBin oGt (dVar 2) (dC (.int 0))) (dBin (oEqN false) (dCallP R.F_common 2 0 (R.a_common 2 []) (daCons (dBi bAbs (daCons (dVar 1) daNil)) (daCons (dVar 2) daNil)) daNil) (dC (.int 1)))))))
noncomputable def F_is_ratio : Fn := fnOfB 4 b_is_ratio
end R
namespace K02
open PySem PySem.Spec PyProof.Rows L2 CI
abbrev ps_q_ratio : List Str := [("_law_bag_here" : Str), ("_law_piece" : Str)]
abbrev n_q_ratio : List Str := [("_law_bag_here" : Str), ("_law_piece" : Str), ("_law_under" : Str), ("_law_top" : Str)]
def a_q_ratio (n : Nat) (ks : List Str) : List Va → List Va → List Va := asmP ps_q_ratio [] n ks
noncomputable def b_q_ratio : Sn := (sSeq (sAsg (gNm 2) (dBin oAdd (dC (.int 1)) (dCall R.F_q_take 2 0 (R.a_q_take 2 []) (daCons (dVar 0) (daCons (dC (.int 30)) daNil)) daNil)))
    (sSeq (sAsg (gNm 3) (dBin oIdx (dLst (daCons (dCall R.F_q_take 2 0 (R.a_q_take 2 []) (daCons (dVar 0) (daCons (dC (.int 500)) daNil)) daNil) (daCons (dCall R.F_q_wide 2 0 (R.a_q_wide 2 []) (daCons (dVar 0) (daCons (dBin oPow (dC (.int 10)) (dC (.int 38))) daNil)) daNil) daNil))) (dBin oDiv (dCall R.F_q_take 2 0 (R.a_q_take 2 []) (daCons (dVar 0) (daCons (dC (.int 4)) daNil)) daNil) (dC (.int 3)))))
    (sSeq (sIf (tVB (dBin (oEqN false) (dCall R.F_q_take 2 0 (R.a_q_take 2 []) (daCons (dVar 0) (daCons (dC (.int 3)) daNil)) daNil) (dC (.int 0)))) (sPar [3, 2] (daCons (dBin oMul (dVar 1) (dCall R.F_q_take 2 0 (R.a_q_take 2 []) (daCons (dVar 0) (daCons (dC (.int 30)) daNil)) daNil)) (daCons (dC (.int 2)) daNil))) sNil)
    (sRet (dCallP R.F_lowest 2 0 (R.a_lowest 2 []) (daCons (dBin oMul (dBin oIdx (dLst (daCons (dC (.int 1)) (daCons (dNeg (dC (.int 1))) daNil))) (dCall R.F_q_take 2 0 (R.a_q_take 2 []) (daCons (dVar 0) (daCons (dC (.int 2)) daNil)) daNil)) (dVar 3)) (daCons (dVar 2) daNil)) daNil)))))
noncomputable def F_q_ratio : Fn := fnOfB 4 b_q_ratio

abbrev ps_q_moved : List Str := [("_law_bag_here" : Str), ("_law_one_of" : Str), ("_law_piece" : Str), ("_law_word" : Str)]
abbrev n_q_moved : List Str := [("_law_bag_here" : Str), ("_law_one_of" : Str), ("_law_piece" : Str), ("_law_word" : Str), ("_law_other" : Str), ("_law_many" : Str), ("_law_mine" : Str)]
def a_q_moved (n : Nat) (ks : List Str) : List Va → List Va → List Va := asmP ps_q_moved [] n ks
noncomputable def b_q_moved : Sn := (sSeq (sPar [5, 6] (daCons (dBin oSub (dCall R.F_q_take 2 0 (R.a_q_take 2 []) (daCons (dVar 0) (daCons (dC (.int 1000)) daNil)) daNil) (dC (.int 500))) (daCons (dCallP R.F_rounded 1 2 (R.a_rounded 1 [("coin" : Str), ("rule" : Str)]) (daCons (dVar 1) daNil) (daCons (dVar 2) (daCons (dVar 3) daNil))) daNil)))
    (sSeq (sIf (tVB (dBin (oEqN false) (dVar 3) (dC (.str ("even" : Str))))) (sAsg (gNm 5) (dBin oMul (dC (.int 2)) (dVar 5))) sNil)
    (sSeq (sIf (tVB (dBin (oEqN true) (dCallP R.F_rounded 1 2 (R.a_rounded 1 [("coin" : Str), ("rule" : Str)]) (daCons (dCallP R.F_lowest 2 0 (R.a_lowest 2 []) (daCons (dBin oAdd (dBin oIdx (dVar 1) (dC (.int 0))) (dBin oMul (dBin oMul (dVar 5) (dVar 2)) (dBin oIdx (dVar 1) (dC (.int 1))))) (daCons (dBin oIdx (dVar 1) (dC (.int 1))) daNil)) daNil) daNil) (daCons (dVar 2) (daCons (dVar 3) daNil))) (dBin oAdd (dVar 6) (dBin oMul (dVar 5) (dVar 2))))) (sRet (dC (.bl false))) sNil)
    (sSeq (sAsg (gNm 4) (dBin oIdx (dDic [((dC (.str ("down" : Str))), (dC (.str ("up" : Str)))), ((dC (.str ("up" : Str))), (dC (.str ("down" : Str)))), ((dC (.str ("upper" : Str))), (dC (.str ("lower" : Str)))), ((dC (.str ("lower" : Str))), (dC (.str ("upper" : Str)))), ((dC (.str ("even" : Str))), (dC (.str ("even" : Str))))]) (dVar 3)))
    (sRet (dBin (oEqN false) (dCallP R.F_rounded 1 2 (R.a_rounded 1 [("coin" : Str), ("rule" : Str)]) (daCons (dTup (daCons (dBin oMul (dNeg (dC (.int 1))) (dBin oIdx (dVar 1) (dC (.int 0)))) (daCons (dBin oIdx (dVar 1) (dC (.int 1))) daNil))) daNil) (daCons (dVar 2) (daCons (dVar 4) daNil))) (dBin oMul (dNeg (dC (.int 1))) (dVar 6))))))))
noncomputable def F_q_moved : Fn := fnOfB 7 b_q_moved

abbrev ps_q_left_right : List Str := [("_law_one_of" : Str), ("_law_piece" : Str), ("_law_word" : Str)]
abbrev n_q_left_right : List Str := [("_law_one_of" : Str), ("_law_piece" : Str), ("_law_word" : Str), ("_law_lies" : Str), ("_law_rest" : Str), ("_law_mine" : Str), ("_law_twice" : Str), ("_law_size" : Str)]
def a_q_left_right (n : Nat) (ks : List Str) : List Va → List Va → List Va := asmP ps_q_left_right [] n ks
noncomputable def b_q_left_right : Sn := (sSeq (sPar [4, 5] (daCons (dCallP R.F_left 1 2 (R.a_left 1 [("coin" : Str), ("rule" : Str)]) (daCons (dVar 0) daNil) (daCons (dVar 1) (daCons (dVar 2) daNil))) (daCons (dCallP R.F_rounded 1 2 (R.a_rounded 1 [("coin" : Str), ("rule" : Str)]) (daCons (dVar 0) daNil) (daCons (dVar 1) (daCons (dVar 2) daNil))) daNil)))
    (sSeq (sPar [6, 7] (daCons (dBin oMul (dC (.int 2)) (dBin oIdx (dVar 4) (dC (.int 0)))) (daCons (dBin oMul (dVar 1) (dBin oIdx (dVar 4) (dC (.int 1)))) daNil)))
    (sSeq (sAsg (gNm 3) (dDic [((dC (.str ("down" : Str))), (dChn oLe oLt (dC (.int 0)) (dVar 6) (dBin oMul (dC (.int 2)) (dVar 7)))), ((dC (.str ("up" : Str))), (dChn oLt oLe (dBin oMul (dNeg (dC (.int 2))) (dVar 7)) (dVar 6) (dC (.int 0)))), ((dC (.str ("upper" : Str))), (dChn oLe oLt (dBin oMul (dNeg (dC (.int 1))) (dVar 7)) (dVar 6) (dVar 7)))]))
    (sSeq (sSetI (dChn oLt oLe (dBin oMul (dNeg (dC (.int 1))) (dVar 7)) (dVar 6) (dVar 7)) (dVar 3) (dC (.str ("lower" : Str))))
    (sSeq (sSetI (dChn oLe oLe (dBin oMul (dNeg (dC (.int 1))) (dVar 7)) (dVar 6) (dVar 7)) (dVar 3) (dC (.str ("even" : Str))))
    (sSeq (sIf (tOr (tNot (tVal (dBin oIdx (dVar 3) (dVar 2)))) (tOr (tVB (dBin (oEqN true) (dBin oMod (dVar 5) (dVar 1)) (dC (.int 0)))) (tVB (dBin (oEqN true) (dCallP R.F_lowest 2 0 (R.a_lowest 2 []) (daCons (dBin oAdd (dBin oIdx (dVar 4) (dC (.int 0))) (dBin oMul (dVar 5) (dBin oIdx (dVar 4) (dC (.int 1))))) (daCons (dBin oIdx (dVar 4) (dC (.int 1))) daNil)) daNil) (dVar 0))))) (sRet (dC (.bl false))) sNil)
    (sSeq (sIf (tAnd (tVB (dBin (oEqN false) (dVar 2) (dC (.str ("even" : Str))))) (tAnd (tVB (dBin (oEqN false) (dBi bAbs (daCons (dVar 6) daNil)) (dVar 7))) (tVB (dBin (oEqN true) (dBin oMod (dBin oDiv (dVar 5) (dVar 1)) (dC (.int 2))) (dC (.int 0)))))) (sRet (dC (.bl false))) sNil)
    (sRet (dAnd (dBin (oEqN false) (dCallP R.F_rounded 1 2 (R.a_rounded 1 [("coin" : Str), ("rule" : Str)]) (daCons (dVar 4) daNil) (daCons (dVar 1) (daCons (dVar 2) daNil))) (dC (.int 0))) (dBin (oEqN false) (dCallP R.F_rounded 1 2 (R.a_rounded 1 [("coin" : Str), ("rule" : Str)]) (daCons (dTup (daCons (dVar 5) (daCons (dC (.int 1)) daNil))) daNil) (daCons (dVar 1) (daCons (dVar 2) daNil))) (dVar 5)))))))))))
noncomputable def F_q_left_right : Fn := fnOfB 8 b_q_left_right

abbrev ps_q_rises : List Str := [("_law_one" : Str), ("_law_other" : Str), ("_law_piece" : Str), ("_law_word" : Str)]
abbrev n_q_rises : List Str := [("_law_one" : Str), ("_law_other" : Str), ("_law_piece" : Str), ("_law_word" : Str), ("_law_first" : Str), ("_law_second" : Str)]
def a_q_rises (n : Nat) (ks : List Str) : List Va → List Va → List Va := asmP ps_q_rises [] n ks
noncomputable def b_q_rises : Sn := (sSeq (sPar [4, 5] (daCons (dVar 0) (daCons (dVar 1) daNil)))
    (sSeq (sIf (tVB (dBin oGt (dBin oMul (dBin oIdx (dVar 0) (dC (.int 0))) (dBin oIdx (dVar 1) (dC (.int 1)))) (dBin oMul (dBin oIdx (dVar 1) (dC (.int 0))) (dBin oIdx (dVar 0) (dC (.int 1)))))) (sPar [4, 5] (daCons (dVar 1) (daCons (dVar 0) daNil))) sNil)
    (sRet (dBin oLe (dCallP R.F_rounded 1 2 (R.a_rounded 1 [("coin" : Str), ("rule" : Str)]) (daCons (dVar 4) daNil) (daCons (dVar 2) (daCons (dVar 3) daNil))) (dCallP R.F_rounded 1 2 (R.a_rounded 1 [("coin" : Str), ("rule" : Str)]) (daCons (dVar 5) daNil) (daCons (dVar 2) (daCons (dVar 3) daNil)))))))
noncomputable def F_q_rises : Fn := fnOfB 6 b_q_rises

abbrev ps_the_law : List Str := [("_law_script" : Str)]
abbrev n_the_law : List Str := [("_law_script" : Str), ("_law_k" : Str), ("_law_bag_here" : Str), ("_law_turn" : Str), ("_law_piece" : Str), ("_law_word" : Str), ("_law_one" : Str), ("_law_other" : Str)]
def a_the_law (n : Nat) (ks : List Str) : List Va → List Va → List Va := asmP ps_the_law [] n ks
noncomputable def b_the_law : Sn := (sSeq (sFor (iRng1 (daCons (dBi bMax (daCons (dC (.int 2)) (daCons (dBi bMin (daCons (dC (.int 4)) (daCons (dBi bLen (daCons (dVar 0) daNil)) daNil))) daNil))) daNil)) (gNm 1) (sSeq (sAsg (gNm 2) (dCall R.F_q_bag 2 0 (R.a_q_bag 2 []) (daCons (dVar 0) (daCons (dVar 1) daNil)) daNil))
    (sFor (iRng1 (daCons (dC (.int 16)) daNil)) (gNm 3) (sSeq (sAsg (gNm 4) (dBin oAdd (dC (.int 1)) (dCall R.F_q_take 2 0 (R.a_q_take 2 []) (daCons (dVar 2) (daCons (dC (.int 12)) daNil)) daNil)))
    (sSeq (sPar [6, 7] (daCons (dCall K02.F_q_ratio 2 0 (K02.a_q_ratio 2 []) (daCons (dVar 2) (daCons (dVar 4) daNil)) daNil) (daCons (dCall K02.F_q_ratio 2 0 (K02.a_q_ratio 2 []) (daCons (dVar 2) (daCons (dVar 4) daNil)) daNil) daNil)))
    (sFor (iSeq (dTup (daCons (dC (.str ("down" : Str))) (daCons (dC (.str ("up" : Str))) (daCons (dC (.str ("upper" : Str))) (daCons (dC (.str ("lower" : Str))) (daCons (dC (.str ("even" : Str))) daNil))))))) (gNm 5) (sSeq (sIf (tOr (tNot (tVal (dCall K02.F_q_moved 4 0 (K02.a_q_moved 4 []) (daCons (dVar 2) (daCons (dVar 6) (daCons (dVar 4) (daCons (dVar 5) daNil)))) daNil))) (tNot (tVal (dCallP K02.F_q_rises 4 0 (K02.a_q_rises 4 []) (daCons (dVar 6) (daCons (dVar 7) (daCons (dVar 4) (daCons (dVar 5) daNil)))) daNil)))) (sRet (dC (.bl false))) sNil)
    (sIf (tNot (tVal (dCallP K02.F_q_left_right 3 0 (K02.a_q_left_right 3 []) (daCons (dVar 6) (daCons (dVar 4) (daCons (dVar 5) daNil))) daNil))) (sRet (dC (.bl false))) sNil))))))))
    (sRet (dC (.bl true))))
noncomputable def F_the_law : Fn := fnOfB 8 b_the_law
end K02
namespace CI
open PySem PySem.Spec PyProof.Rows L2

/-! ### evaluating readings -/
section
variable {β γ : Type} {h h1 : Hh} {s : Sl}
@[simp] theorem ev_bind_ok {v : β} {f : β → Hh → Res γ} : (Res.ok v h).bind f = f v h := rfl
@[simp] theorem ev_sbind_ok {v : β} {f : β → Hh → SR} : sBind (Res.ok v h) f = f v h := rfl
@[simp] theorem ev_then_nx {k : Sl → Hh → SR} : sThen (.nx s h) k = k s h := rfl
@[simp] theorem ev_then_rt {k : Sl → Hh → SR} {v : Va} : sThen (.rt v h) k = .rt v h := rfl
@[simp] theorem ev_then_bk {k : Sl → Hh → SR} : sThen (.bk s h) k = .bk s h := rfl
@[simp] theorem ev_then_ct {k : Sl → Hh → SR} : sThen (.ct s h) k = .ct s h := rfl
@[simp] theorem ev_asB {b : Bool} : asB (.ok (.pv (.bl b)) h) = .ok b h := rfl
@[simp] theorem ev_give {p : Pv} {n : Nat} : giveN n (.pv p) h = some (p, h) := by cases n <;> rfl
@[simp] theorem ev_gives_nil {g : Va → Hh → Option (Pv × Hh)} : gives g [] h = some ([], h) := rfl
@[simp] theorem ev_gives_cons {g : Va → Hh → Option (Pv × Hh)} {v : Va} {vs : List Va} : gives g (v :: vs) h = match g v h with
  | some (p, h1) => match gives g vs h1 with
    | some (ps, h2) => some (p :: ps, h2)
    | none => none
  | none => none := rfl
@[simp] theorem ev_var {i : Nat} : dVar i s h = match s[i]? with
  | some (some v) => .ok v h
  | _ => .stuck := rfl
@[simp] theorem ev_C {p : Pv} : dC p s h = .ok (.pv p) h := rfl
@[simp] theorem ev_nil : daNil s h = .ok [] h := rfl
@[simp] theorem ev_cons {d : Dn} {r : Da} : daCons d r s h = (d s h).bind fun v h1 => (r s h1).bind fun vs h2 => .ok (v :: vs) h2 := rfl
@[simp] theorem ev_bin {f : Op2} {a b : Dn} : dBin f a b s h = (a s h).bind fun x h1 => (b s h1).bind fun y h2 => f x y h2 := rfl
@[simp] theorem ev_bi {f : Fn} {da : Da} : dBi f da s h = (da s h).bind f := rfl
@[simp] theorem ev_tVB {d : Dn} : tVB d s h = asB (d s h) := rfl
@[simp] theorem ev_tNot {d : Dt} : tNot d s h = (d s h).bind fun k h1 => .ok (!k) h1 := rfl
@[simp] theorem ev_tAnd {a b : Dt} : tAnd a b s h = (a s h).bind fun k h1 => if k then b s h1 else .ok false h1 := rfl
@[simp] theorem ev_tOr {a b : Dt} : tOr a b s h = (a s h).bind fun k h1 => if k then .ok true h1 else b s h1 := rfl
@[simp] theorem ev_dAnd {a b : Dn} : dAnd a b s h = (asB (a s h)).bind fun k h1 => if k then b s h1 else .ok (.pv (.bl false)) h1 := rfl
@[simp] theorem ev_dOr {a b : Dn} : dOr a b s h = (asB (a s h)).bind fun k h1 => if k then .ok (.pv (.bl true)) h1 else b s h1 := rfl
@[simp] theorem ev_dNot {a : Dn} : dNot a s h = (asB (a s h)).bind fun k h1 => .ok (.pv (.bl (!k))) h1 := rfl
@[simp] theorem ev_dIf {t : Dt} {a b : Dn} : dIf t a b s h = (t s h).bind fun k h1 => if k then a s h1 else b s h1 := rfl
@[simp] theorem ev_tVal {d : Dn} : tVal d s h = (d s h).bind fun v h1 => match truth h1 v with
  | some k => .ok k h1
  | none => .stuck := rfl
@[simp] theorem ev_dTup {da : Da} : dTup da s h = (da s h).bind fun vs h1 => mkSeq .tup vs h1 := rfl
@[simp] theorem ev_dLst {da : Da} : dLst da s h = (da s h).bind fun vs h1 => mkSeq .lst vs h1 := rfl
@[simp] theorem ev_dLstM {da : Da} : dLstM da s h = (da s h).bind fun vs h1 => if vs.length ≤ 16777216 then .ok (.ref h1.length) (h1 ++ [.lst vs]) else .stuck := rfl
@[simp] theorem ev_dNeg {d : Dn} : dNeg d s h = (d s h).bind fun x h1 => match x with
  | .pv (.int i) => .ok (.pv (.int (-i))) h1
  | _ => .stuck := rfl
@[simp] theorem ev_seq {a b : Sn} : sSeq a b s h = sThen (a s h) b := rfl
@[simp] theorem ev_sNil : sNil s h = .nx s h := rfl
@[simp] theorem ev_sRet {d : Dn} : sRet d s h = sBind (d s h) fun v h1 => .rt v h1 := rfl
@[simp] theorem ev_sIf {t : Dt} {a b : Sn} : sIf t a b s h = sBind (t s h) fun k h1 => if k then a s h1 else b s h1 := rfl
@[simp] theorem ev_sAsg {t : Tg} {d : Dn} : sAsg t d s h = sBind (d s h) fun v h1 => match t.put v s h1 with
  | some s' => .nx s' h1
  | none => .stuck := rfl
@[simp] theorem ev_sPar {is : List Nat} {da : Da} : sPar is da s h = sBind (da s h) fun xs h1 => if xs.length = is.length ∧ xs.length ≤ 3 then .nx (setAll (is.reverse.zip xs.reverse) s) h1 else .stuck := rfl
@[simp] theorem ev_setAll_nil : setAll [] s = s := rfl
@[simp] theorem ev_setAll {i : Nat} {v : Va} {r : List (Nat × Va)} : setAll ((i, v) :: r) s = setAll r (s.set i (some v)) := rfl
@[simp] theorem ev_gNm {i : Nat} {v : Va} : (gNm i).put v s h = some (s.set i (some v)) := rfl
@[simp] theorem ev_gTu {n : Nat} {r : Tgs} {ps : List Pv} : (gTu n r).put (.pv (.tup ps)) s h = if (ps.map Va.pv).length = n then r.put (ps.map .pv) s h else none := rfl
@[simp] theorem ev_gsNil : gsNil.put [] s h = some s := rfl
@[simp] theorem ev_gsCons {t : Tg} {r : Tgs} {x : Va} {xs : List Va} : (gsCons t r).put (x :: xs) s h = match t.put x s h with
  | some s1 => r.put xs s1 h
  | none => none := rfl
@[simp] theorem ev_sSetI {d o i : Dn} : sSetI d o i s h = sBind (d s h) fun v h1 => sBind (o s h1) fun x h2 => sBind (i s h2) fun y h3 => match oSetI x y v h3 with
  | some h4 => .nx s h4
  | none => .stuck := rfl
@[simp] theorem ev_sFor {it : Da} {t : Tg} {b : Sn} : sFor it t b s h = sBind (it s h) fun xs h1 => forL t b xs s h1 := rfl
@[simp] theorem ev_forL_nil {t : Tg} {b : Sn} : forL t b [] s h = .nx s h := rfl
@[simp] theorem ev_forL_cons {t : Tg} {b : Sn} {x : Va} {xs : List Va} : forL t b (x :: xs) s h = match t.put x s h with
  | some s1 => turnEnd (b s1 h) (forL t b xs)
  | none => .stuck := rfl
@[simp] theorem ev_turn_nx {k : Sn} : turnEnd (.nx s h) k = k s h := rfl
@[simp] theorem ev_turn_ct {k : Sn} : turnEnd (.ct s h) k = k s h := rfl
@[simp] theorem ev_turn_rt {k : Sn} {v : Va} : turnEnd (.rt v h) k = .rt v h := rfl
@[simp] theorem ev_turn_bk {k : Sn} : turnEnd (.bk s h) k = .nx s h := rfl
@[simp] theorem ev_iSeq {d : Dn} : iSeq d s h = (d s h).bind fun v h1 => match give v h1 with
  | some (p, h2) => match seqOf p with
    | some xs => .ok xs h2
    | none => .stuck
  | none => .stuck := rfl
@[simp] theorem ev_seqOf_lst {ps : List Pv} : seqOf (.lst ps) = some (ps.map .pv) := rfl
@[simp] theorem ev_seqOf_tup {ps : List Pv} : seqOf (.tup ps) = some (ps.map .pv) := rfl
@[simp] theorem ev_iRng1 {da : Da} : iRng1 da s h = (da s h).bind fun vs h1 => match vs with
  | [.pv (.int j)] => .ok (rangeVa 0 j.toNat) h1
  | _ => .stuck := rfl
@[simp] theorem ev_iRng2 {da : Da} : iRng2 da s h = (da s h).bind fun vs h1 => match vs with
  | [.pv (.int i), .pv (.int j)] => .ok (rangeVa i (j - i).toNat) h1
  | _ => .stuck := rfl
@[simp] theorem ev_dComp {it : Da} {vs : List Nat} {t : Tg} {c : Dt} {d : Dn} : dComp it vs t c d s h = (it s h).bind fun xs h1 => if xs.length ≤ 1000000 then compL t c d (wipeS s vs) xs [] h1 else .stuck := rfl
@[simp] theorem ev_yes : tYesD s h = .ok true h := rfl
@[simp] theorem ev_wipe_nil : wipeS s [] = s := rfl
@[simp] theorem ev_wipe {v : Nat} {vs : List Nat} : wipeS s (v :: vs) = (wipeS s vs).set v none := rfl
theorem ev_comp_nil {t : Tg} {c : Dt} {d : Dn} {acc : List Pv} : compL t c d s [] acc h = .ok (.pv (.lst acc)) h := rfl
@[simp] theorem ev_mkSeq {mk : List Pv → Pv} {vs : List Va} : mkSeq mk vs h = match gives give vs h with
  | some (ps, h1) => if ps.length ≤ 16777216 then .ok (.pv (mk ps)) h1 else .stuck
  | none => .stuck := rfl
/-! operations on ints -/
variable {i j : Int}
@[simp] theorem ev_sub : oSub (.pv (.int i)) (.pv (.int j)) h = .ok (.pv (.int (i - j))) h := rfl
@[simp] theorem ev_add : oAdd (.pv (.int i)) (.pv (.int j)) h = .ok (.pv (.int (i + j))) h := rfl
@[simp] theorem ev_mul : oMul (.pv (.int i)) (.pv (.int j)) h = if mulOk i j then .ok (.pv (.int (i * j))) h else .stuck := rfl
@[simp] theorem ev_div : oDiv (.pv (.int i)) (.pv (.int j)) h = if divOk j then .ok (.pv (.int (i.fdiv j))) h else .stuck := rfl
@[simp] theorem ev_mod : oMod (.pv (.int i)) (.pv (.int j)) h = if j ≠ 0 then .ok (.pv (.int (i.fmod j))) h else .stuck := by
  show (if decide (j ≠ 0) = true then _ else _) = _
  simp
@[simp] theorem ev_pow : oPow (.pv (.int i)) (.pv (.int j)) h = if powOk i j then .ok (.pv (.int (i ^ j.toNat))) h else .stuck := rfl
@[simp] theorem ev_lt : oLt (.pv (.int i)) (.pv (.int j)) h = .ok (.pv (.bl (decide (i < j)))) h := rfl
@[simp] theorem ev_le : oLe (.pv (.int i)) (.pv (.int j)) h = .ok (.pv (.bl (decide (i ≤ j)))) h := rfl
@[simp] theorem ev_gt : oGt (.pv (.int i)) (.pv (.int j)) h = .ok (.pv (.bl (decide (j < i)))) h := rfl
@[simp] theorem ev_ge : oGe (.pv (.int i)) (.pv (.int j)) h = .ok (.pv (.bl (decide (j ≤ i)))) h := rfl
@[simp] theorem ev_abs : bAbs [.pv (.int i)] h = .ok (.pv (.int i.natAbs)) h := rfl
@[simp] theorem ev_int : bInt [.pv (.int i)] h = .ok (.pv (.int i)) h := rfl
@[simp] theorem ev_intb {b : Bool} : bInt [.pv (.bl b)] h = .ok (.pv (.int (if b then 1 else 0))) h := rfl
@[simp] theorem ev_divmod : bDivmod [.pv (.int i), .pv (.int j)] h = if divOk j then .ok (.pv (.tup [.int (i.fdiv j), .int (i.fmod j)])) h else .stuck := rfl
@[simp] theorem ev_max2 : bMax [.pv (.int i), .pv (.int j)] h = .ok (.pv (.int (max i j))) h := rfl
@[simp] theorem ev_min2 : bMin [.pv (.int i), .pv (.int j)] h = .ok (.pv (.int (min i j))) h := rfl
/-! == -/
@[simp] theorem ev_eqI {n : Bool} : oEqN n (.pv (.int i)) (.pv (.int j)) h = .ok (.pv (.bl (if n then !(decide (i = j)) else decide (i = j)))) h := by
  cases n <;> rfl
@[simp] theorem ev_eqS {n : Bool} {a b : Str} : oEqN n (.pv (.str a)) (.pv (.str b)) h = .ok (.pv (.bl (if n then !(decide (a = b)) else decide (a = b)))) h := by
  cases n <;> rfl
/-! dicts -/
@[simp] theorem ev_dDic {ps : List (Dn × Dn)} : dDic ps s h = (pairsV ps s (h ++ [.dct []])).bind fun kvs h2 => match h2[h.length]? with
  | some (.dct []) => if kvs.length ≤ 15 then .ok (.ref h.length) (h2.set h.length (.dct (mergeV [] kvs))) else .stuck
  | _ => .stuck := rfl
@[simp] theorem ev_pairs_nil : pairsV [] s h = .ok [] h := rfl
@[simp] theorem ev_pairs_cons {dk dv : Dn} {r : List (Dn × Dn)} : pairsV ((dk, dv) :: r) s h = (dk s h).bind fun x h1 => (dv s h1).bind fun y h2 => (pairsV r s h2).bind fun l h3 => match keyOf x with
  | some k => .ok ((k, y) :: l) h3
  | none => .stuck := rfl
@[simp] theorem ev_keyS {x : Str} : keyOf (.pv (.str x)) = some (.inr x) := rfl
@[simp] theorem ev_keyI {x : Int} : keyOf (.pv (.int x)) = some (.inl x) := rfl
/-! calls -/
theorem ev_call {F : Fn} {n m : Nat} {asm : List Va → List Va → List Va} {da dk : Da} : dCall F n m asm da dk s h = (da s h).bind fun us h1 => (dk s h1).bind fun ws h2 => if us.length = n ∧ ws.length = m then F (asm us ws) h2 else .stuck := rfl
theorem ev_callP {F : Fn} {n m : Nat} {asm : List Va → List Va → List Va} {da dk : Da} : dCallP F n m asm da dk s h = (da s h).bind fun us h1 => (dk s h1).bind fun ws h2 => if us.length = n ∧ ws.length = m then (match gives give (asm us ws) h2 with
  | some (ps, h3) => (pcall F ps).res h3
  | none => .stuck) else .stuck := rfl
@[simp] theorem ev_res {p : Pv} : (PR.ok p).res h = .ok (.pv p) h := rfl
theorem pcall_of {F : Fn} {ps : List Pv} {p : Pv} {h' : Hh} (e : F (ps.map .pv) [] = .ok (.pv p) h') : pcall F ps = .ok p := by
  unfold pcall
  rw [e]
  simp
end
end CI
namespace R
open PySem PySem.Spec PyProof.Rows L2 CI

theorem fmod_nat (a b : Nat) : Int.fmod (a : Int) (b : Int) = ((a % b : Nat) : Int) := by
  rw [Int.fmod_eq_emod_of_nonneg _ (by omega)]; rfl
theorem fdiv_nat (a b : Nat) : Int.fdiv (a : Int) (b : Int) = ((a / b : Nat) : Int) := by
  rw [Int.fdiv_eq_ediv_of_nonneg _ (by omega)]; rfl
noncomputable abbrev gcdW : Sn := sWhl (tVB (dBin oGt (dVar 1) (dC (.int 0)))) (sPar [0, 1] (daCons (dVar 1) (daCons (dBin oMod (dVar 0) (dVar 1)) daNil)))
theorem gcdW_ev (h : Hh) : ∀ (b a : Nat), gcdW [some (.pv (.int a)), some (.pv (.int b))] h = .nx [some (.pv (.int (Nat.gcd a b : Nat))), some (.pv (.int 0))] h := by
  intro b
  induction b using Nat.strongRecOn with
  | ind b ih =>
    intro a
    unfold gcdW
    rw [sWhl_eq]
    unfold whS
    by_cases hb : b = 0
    · subst hb
      simp
    · have this := ih (a % b) (Nat.mod_lt _ (by omega)) b
      have e2 : (b : Int) ≠ 0 := by omega
      have e3 : 0 < b := by omega
      have g : Nat.gcd b (a % b) = Nat.gcd a b := by rw [Nat.gcd_comm b, ← Nat.gcd_rec, Nat.gcd_comm]
      rw [g] at this
      simp [e2, e3, fmod_nat, hb]
      simpa using this
theorem common_ev (a b : Nat) (h : Hh) : F_common [.pv (.int a), .pv (.int b)] h = .ok (.pv (.int (Nat.gcd a b : Nat))) h := by
  unfold F_common fnOfB b_common startS
  simp [gcdW_ev]
theorem p_common (a b : Nat) : pcall F_common [.int a, .int b] = .ok (.int (Nat.gcd a b : Nat)) := pcall_of (common_ev a b [])
end R
namespace R
open PySem PySem.Spec PyProof.Rows L2 CI
@[simp] theorem ap_common (x y : Va) : a_common 2 [] [x, y] [] = [x, y] := by rfl
@[simp] theorem ap_lowest (x y : Va) : a_lowest 2 [] [x, y] [] = [x, y] := by rfl
@[simp] theorem ap_plus (x y : Va) : a_plus 2 [] [x, y] [] = [x, y] := by rfl
@[simp] theorem ap_minus (x y : Va) : a_minus 2 [] [x, y] [] = [x, y] := by rfl
@[simp] theorem ap_many (x y z w : Va) : a_many_coins 4 [] [x, y, z, w] [] = [x, y, z, w] := by rfl
@[simp] theorem ap_rounded2 (x c r : Va) : a_rounded 1 [("coin" : Str), ("rule" : Str)] [x] [c, r] = [x, c, r] := by rfl
@[simp] theorem ap_rounded0 (x : Va) : a_rounded 1 [] [x] [] = [x, .pv (.int 1), .pv (.str ("down" : Str))] := by rfl
@[simp] theorem ap_rounded0k (x r : Va) : a_rounded 0 [("ratio" : Str), ("rule" : Str)] [] [x, r] = [x, .pv (.int 1), r] := by rfl
@[simp] theorem ap_rounded1 (x c : Va) : a_rounded 1 [("coin" : Str)] [x] [c] = [x, c, .pv (.str ("down" : Str))] := by rfl
@[simp] theorem ap_left2 (x c r : Va) : a_left 1 [("rule" : Str), ("coin" : Str)] [x] [r, c] = [x, c, r] := by rfl
@[simp] theorem ap_left2' (x c r : Va) : a_left 1 [("coin" : Str), ("rule" : Str)] [x] [c, r] = [x, c, r] := by rfl
@[simp] theorem ap_left0 (x : Va) : a_left 1 [] [x] [] = [x, .pv (.int 1), .pv (.str ("down" : Str))] := by rfl
@[simp] theorem ap_left3 (x c r : Va) : a_left 0 [("rule" : Str), ("ratio" : Str), ("coin" : Str)] [] [r, x, c] = [x, c, r] := by rfl
def lwP (t u : Int) : Int := if u < 0 then -((Nat.gcd t.natAbs u.natAbs : Nat) : Int) else ((Nat.gcd t.natAbs u.natAbs : Nat) : Int)
theorem log2_small {n k : Nat} (h : n < 2 ^ k) (hk : 0 < k) : n.log2 < k := by
  by_cases z : n = 0
  · subst z; simpa using hk
  · exact (Nat.log2_lt z).mpr h
theorem divOk_of {j : Int} (h : j ≠ 0) (h2 : j.natAbs < 2 ^ 8000) : divOk j = true := by
  unfold divOk
  have := log2_small h2 (by decide)
  simp only [Bool.and_eq_true, decide_eq_true_eq]
  exact ⟨h, by omega⟩
theorem mulOk_of {i j : Int} (h : i.natAbs < 2 ^ 8000) (h2 : j.natAbs < 2 ^ 8000) : mulOk i j = true := by
  unfold mulOk
  have := log2_small h (by decide)
  have := log2_small h2 (by decide)
  simp only [Bool.or_eq_true, Bool.and_eq_true, decide_eq_true_eq]
  exact .inr ⟨by omega, by omega⟩
theorem mulOk_l {i j : Int} (h : i.natAbs < 2 ^ 64) : mulOk i j = true := by
  unfold mulOk
  simp only [Bool.or_eq_true, Bool.and_eq_true, decide_eq_true_eq]
  exact .inl (.inl h)
theorem mulOk_r {i j : Int} (h : j.natAbs < 2 ^ 64) : mulOk i j = true := by
  unfold mulOk
  simp only [Bool.or_eq_true, Bool.and_eq_true, decide_eq_true_eq]
  exact .inl (.inr h)
theorem lwP_le {t u : Int} (h : u ≠ 0) : (lwP t u).natAbs ≤ u.natAbs ∧ lwP t u ≠ 0 := by
  have h1 : Nat.gcd t.natAbs u.natAbs ≤ u.natAbs := Nat.gcd_le_right _ (by omega)
  have h2 : 0 < Nat.gcd t.natAbs u.natAbs := Nat.gcd_pos_of_pos_right _ (by omega)
  unfold lwP
  split <;> omega
theorem p_lowest {t u : Int} (h : u ≠ 0) (hu : u.natAbs < 2 ^ 8000) : pcall F_lowest [.int t, .int u] = .ok (.tup [.int (t.fdiv (lwP t u)), .int (u.fdiv (lwP t u))]) := by
  refine pcall_of (h' := []) ?_
  obtain ⟨l1, l2⟩ := lwP_le (t := t) h
  have hd : divOk (lwP t u) = true := divOk_of l2 (by omega)
  have e := p_common t.natAbs u.natAbs
  unfold F_lowest fnOfB b_lowest startS
  by_cases hn : u < 0
  · have q : lwP t u = -((Nat.gcd t.natAbs u.natAbs : Nat) : Int) := by unfold lwP; rw [if_pos hn]
    rw [q] at hd ⊢
    simp [ev_callP, e, hn, hd]
  · have q : lwP t u = ((Nat.gcd t.natAbs u.natAbs : Nat) : Int) := by unfold lwP; rw [if_neg hn]
    rw [q] at hd ⊢
    simp [ev_callP, e, hn, hd]
end R
namespace R
open PySem PySem.Spec PyProof.Rows L2 CI

/-! ### repr -/
theorem leaf_int {i : Int} (h : i.natAbs.log2 < 1920) : PyData.leavesShort 1921 (.int i) = true := by
  unfold PyData.leavesShort
  exact decide_eq_true (int_text_len_1921 h)
theorem showOk_int {i : Int} (h : i.natAbs < 2 ^ 1920) : showOk (.int i) = true := by
  have h1 := log2_small h (by decide)
  have h2 := PyData.shown_le_bulk 1921 (by decide) (.int i) (leaf_int h1)
  unfold showOk
  simp only [Bool.and_eq_true, decide_eq_true_eq]
  refine ⟨⟨⟨decide_eq_true h1, rfl⟩, by simp [PyData.depth]⟩, ?_⟩
  have e : (PyData.int i).bulk = 0 := rfl
  rw [e] at h2
  omega
theorem showOk_two {i j : Int} (h : i.natAbs < 2 ^ 1920) (h' : j.natAbs < 2 ^ 1920) : showOk (.tuple [.int i, .int j]) = true := by
  have h1 := log2_small h (by decide)
  have h1' := log2_small h' (by decide)
  have h2 := PyData.shown_le_bulk 1921 (by decide) (.tuple [.int i, .int j]) (by
    show (PyData.leavesShort 1921 (.int i) && (PyData.leavesShort 1921 (.int j) && true)) = true
    rw [leaf_int h1, leaf_int h1']; rfl)
  unfold showOk
  simp only [Bool.and_eq_true, decide_eq_true_eq]
  refine ⟨⟨⟨?_, rfl⟩, by simp [PyData.depth, PyData.depthAll]⟩, ?_⟩
  · show (decide _ && (decide _ && true)) = true
    rw [decide_eq_true h1, decide_eq_true h1']; rfl
  · have e : (PyData.tuple [.int i, .int j]).bulk = 2 := rfl
    rw [e] at h2
    omega
theorem ev_repr {p : Pv} {d : PyData} {h : Hh} (hd : toD p = some d) (hs : showOk d = true) : bRepr [.pv p] h = .ok (.pv (.str d.shown)) h := by
  show (match toD p with | some d => if showOk d then _ else _ | none => _) = _
  rw [hd]
  simp [hs]
theorem ev_idx_tup {ps : List Pv} {i : Int} {h : Hh} : oIdx (.pv (.tup ps)) (.pv (.int i)) h = match atI (ps.map Va.pv) i with
  | some v => .ok v h
  | none => .stuck := rfl
theorem ev_idx_lst {ps : List Pv} {i : Int} {h : Hh} : oIdx (.pv (.lst ps)) (.pv (.int i)) h = match atI (ps.map Va.pv) i with
  | some v => .ok v h
  | none => .stuck := rfl
@[simp] theorem ev_t0 {a : Pv} {r : List Pv} {h : Hh} : oIdx (.pv (.tup (a :: r))) (.pv (.int 0)) h = .ok (.pv a) h := by
  rw [ev_idx_tup]; simp [atI, ixN]
@[simp] theorem ev_t1 {a b : Pv} {r : List Pv} {h : Hh} : oIdx (.pv (.tup (a :: b :: r))) (.pv (.int 1)) h = .ok (.pv b) h := by
  rw [ev_idx_tup]; simp only [atI, ixN, List.map_cons, List.length_cons]; rw [if_pos (by decide), if_pos (by omega)]; rfl
@[simp] theorem ev_l0 {a : Pv} {r : List Pv} {h : Hh} : oIdx (.pv (.lst (a :: r))) (.pv (.int 0)) h = .ok (.pv a) h := by
  rw [ev_idx_lst]; simp [atI, ixN]
@[simp] theorem ev_l1 {a b : Pv} {r : List Pv} {h : Hh} : oIdx (.pv (.lst (a :: b :: r))) (.pv (.int 1)) h = .ok (.pv b) h := by
  rw [ev_idx_lst]; simp only [atI, ixN, List.map_cons, List.length_cons]; rw [if_pos (by decide), if_pos (by omega)]; rfl
/-! ### ratios -/
abbrev rat (t u : Int) : Pv := .tup [.int t, .int u]
abbrev low (t u : Int) : Pv := rat (t.fdiv (lwP t u)) (u.fdiv (lwP t u))
theorem p_plus {a b c d : Int} (h : b * d ≠ 0) (hu : (b * d).natAbs < 2 ^ 8000) (m1 : mulOk a d = true) (m2 : mulOk c b = true) (m3 : mulOk b d = true) :
    pcall F_plus [rat a b, rat c d] = .ok (low (a * d + c * b) (b * d)) := by
  refine pcall_of (h' := []) ?_
  have e := p_lowest (t := a * d + c * b) h hu
  unfold F_plus fnOfB b_plus startS
  simp [ev_callP, m1, m2, m3, e]
theorem p_minus {a b c d : Int} (h : b * d ≠ 0) (hu : (b * d).natAbs < 2 ^ 8000) (m1 : mulOk a d = true) (m2 : mulOk (-c) b = true) (m3 : mulOk b d = true) :
    pcall F_minus [rat a b, rat c d] = .ok (low (a * d + -c * b) (b * d)) := by
  refine pcall_of (h' := []) ?_
  have e := p_plus (a := a) (b := b) (c := -c) (d := d) h hu m1 m2 m3
  unfold F_minus fnOfB b_minus startS
  simp [ev_callP, e]
/-- many_coins -/
def mc (t S : Int) (r : Str) : Int :=
  if t.fmod S = 0 ∨ r = ("down" : Str) then t.fdiv S
  else if r = ("up" : Str) then t.fdiv S + 1
  else if 2 * t.fmod S ≠ S then t.fdiv S + (if 2 * t.fmod S > S then 1 else 0)
  else if r = ("even" : Str) then t.fdiv S + (t.fdiv S).fmod 2
  else t.fdiv S + (if r = ("upper" : Str) then 1 else 0)
/-! the five words -/
theorem w1 : ¬ (("up" : Str) = ("down" : Str)) := by decide +kernel
theorem w2 : ¬ (("even" : Str) = ("down" : Str)) := by decide +kernel
theorem w3 : ¬ (("upper" : Str) = ("down" : Str)) := by decide +kernel
theorem w4 : ¬ (("lower" : Str) = ("down" : Str)) := by decide +kernel
theorem w5 : ¬ (("even" : Str) = ("up" : Str)) := by decide +kernel
theorem w6 : ¬ (("upper" : Str) = ("up" : Str)) := by decide +kernel
theorem w7 : ¬ (("lower" : Str) = ("up" : Str)) := by decide +kernel
theorem w8 : ¬ (("upper" : Str) = ("even" : Str)) := by decide +kernel
theorem w9 : ¬ (("lower" : Str) = ("even" : Str)) := by decide +kernel
theorem w10 : ¬ (("lower" : Str) = ("upper" : Str)) := by decide +kernel
theorem w11 : ¬ (("even" : Str) = ("upper" : Str)) := by decide +kernel
theorem w12 : ¬ (("down" : Str) = ("up" : Str)) := by decide +kernel
theorem w13 : ¬ (("down" : Str) = ("even" : Str)) := by decide +kernel
theorem w14 : ¬ (("down" : Str) = ("upper" : Str)) := by decide +kernel
theorem w15 : ¬ (("up" : Str) = ("even" : Str)) := by decide +kernel
theorem w16 : ¬ (("up" : Str) = ("upper" : Str)) := by decide +kernel
theorem p_many {t u c : Int} {r : Str} (hS : u * c ≠ 0) (hz : (u * c).natAbs < 2 ^ 8000) (hc : c.natAbs < 2 ^ 64) : pcall F_many_coins [.int t, .int u, .int c, .str r] = .ok (.int (mc t (u * c) r)) := by
  refine pcall_of (h' := []) ?_
  have m1 : mulOk u c = true := mulOk_r hc
  have m2 : mulOk 2 (t.fmod (u * c)) = true := mulOk_l (by decide)
  have d1 := divOk_of hS hz
  unfold F_many_coins fnOfB b_many_coins startS mc
  by_cases z1 : t.fmod (u * c) = 0
  · simp [m1, m2, d1, z1]
  · by_cases z2 : r = ("down" : Str)
    · simp [m1, m2, d1, z1, z2]
    · by_cases z3 : r = ("up" : Str)
      · simp [m1, m2, d1, z1, z3, w1]
      · by_cases z4 : 2 * t.fmod (u * c) = u * c
        · by_cases z5 : r = ("even" : Str)
          · simp [m1, m2, d1, z1, z4, z5, w2, w5]
          · by_cases z6 : r = ("upper" : Str)
            · simp [m1, m2, d1, z1, z4, z6, w3, w6, w8]
            · simp [m1, m2, d1, z1, z2, z3, z4, z5, z6]
        · by_cases z5 : 2 * t.fmod (u * c) > u * c
          · simp [m1, m2, d1, z1, z2, z3, z4, z5]
          · simp [m1, m2, d1, z1, z2, z3, z4, z5]
theorem p_rounded {t u c : Int} {r : Str} (hS : u * c ≠ 0) (hz : (u * c).natAbs < 2 ^ 8000) (hc : c.natAbs < 2 ^ 64) : pcall F_rounded [rat t u, .int c, .str r] = .ok (.int (c * mc t (u * c) r)) := by
  refine pcall_of (h' := []) ?_
  have e := p_many (t := t) (r := r) hS hz hc
  have m1 : mulOk c (mc t (u * c) r) = true := mulOk_l hc
  unfold F_rounded fnOfB b_rounded startS
  simp [ev_callP, e, m1]
theorem p_left {t u c : Int} {r : Str} (hS : u * c ≠ 0) (hu : u.natAbs < 2 ^ 64) (hc : c.natAbs < 2 ^ 64) : pcall F_left [rat t u, .int c, .str r] = .ok (low (t + -(c * mc t (u * c) r) * u) u) := by
  refine pcall_of (h' := []) ?_
  have hz : (u * c).natAbs < 2 ^ 8000 := by
    rw [Int.natAbs_mul]
    calc u.natAbs * c.natAbs < 2 ^ 64 * 2 ^ 64 := Nat.mul_lt_mul'' hu hc
      _ ≤ 2 ^ 8000 := by decide +kernel
  have e := p_rounded (t := t) (r := r) hS hz hc
  have hu0 : u ≠ 0 := fun z => hS (by rw [z, Int.zero_mul])
  have e2 := p_minus (a := t) (b := u) (c := c * mc t (u * c) r) (d := 1) (by simpa using hu0) (by rw [Int.mul_one]; exact Nat.lt_trans hu (by decide +kernel)) (mulOk_r (by decide)) (mulOk_r hu) (mulOk_r (by decide))
  rw [Int.mul_one, Int.mul_one] at e2
  unfold F_left fnOfB b_left startS
  simp [ev_callP, e, e2]
end R
namespace R
open PySem PySem.Spec PyProof.Rows L2 CI

@[simp] theorem ap_take (x y : Va) : a_q_take 2 [] [x, y] [] = [x, y] := by rfl
@[simp] theorem ap_wide (x y : Va) : a_q_wide 2 [] [x, y] [] = [x, y] := by rfl
@[simp] theorem ap_bag (x y : Va) : a_q_bag 2 [] [x, y] [] = [x, y] := by rfl
@[simp] theorem ap_gcd (x y : Va) : a_q_gcd 2 [] [x, y] [] = [x, y] := by rfl
/-! ### the bag -/
abbrev I (i : Int) : Va := .pv (.int i)
def BagAt (h : Hh) (r : Nat) : Prop := ∃ g m p c : Int, h[r]? = some (.lst [I g, I m, I p, I c]) ∧ 0 ≤ g ∧ 0 ≤ m ∧ m < 2 ^ 31 ∧ 0 < p ∧ p < 2 ^ 31
/-- what else is there stays -/
def Oth (h h' : Hh) (r : Nat) : Prop := h'.length = h.length ∧ ∀ r', r' ≠ r → h'[r']? = h[r']?
theorem Oth.refl {h : Hh} {r : Nat} : Oth h h r := ⟨rfl, fun _ _ => rfl⟩
theorem Oth.trans {h h1 h2 : Hh} {r : Nat} (a : Oth h h1 r) (b : Oth h1 h2 r) : Oth h h2 r := ⟨b.1.trans a.1, fun r' n => (b.2 r' n).trans (a.2 r' n)⟩
theorem Oth.set {h : Hh} {r : Nat} {o : Ob} : Oth h (h.set r o) r := ⟨by simp, fun r' n => by rw [List.getElem?_set_ne (Ne.symm n)]⟩
theorem at4 {h : Hh} {r : Nat} {a b c d : Va} (e : h[r]? = some (.lst [a, b, c, d])) :
    oIdx (.ref r) (I 0) h = .ok a h ∧ oIdx (.ref r) (I 1) h = .ok b h ∧ oIdx (.ref r) (I 2) h = .ok c h ∧ oIdx (.ref r) (I 3) h = .ok d h := by
  have k : ∀ i : Int, oIdx (.ref r) (I i) h = match atI [a, b, c, d] i with | some v => .ok v h | none => .stuck := fun i => by
    unfold oIdx dctOf oIdxS rdl
    dsimp only
    first
      | (rw [e]; done)
      | (rw [e]; rfl)
  refine ⟨?_, ?_, ?_, ?_⟩ <;> rw [k] <;> rfl
theorem set4 {h : Hh} {r : Nat} {a b c d v : Va} (e : h[r]? = some (.lst [a, b, c, d])) :
    oSetI (.ref r) (I 0) v h = some (h.set r (.lst [v, b, c, d])) ∧ oSetI (.ref r) (I 1) v h = some (h.set r (.lst [a, v, c, d])) ∧ oSetI (.ref r) (I 3) v h = some (h.set r (.lst [a, b, c, v])) := by
  have k : ∀ i : Int, oSetI (.ref r) (I i) v h = match ixN 4 i with | some j => some (h.set r (.lst ([a, b, c, d].set j v))) | none => none := fun i => by
    unfold oSetI dctOf oSetL
    dsimp only
    first
      | (rw [e]; done)
      | (rw [e]; rfl)
  refine ⟨?_, ?_, ?_⟩ <;> rw [k] <;> rfl
theorem fmod_in {a b : Int} (hb : 0 < b) : 0 ≤ a.fmod b ∧ a.fmod b < b := ⟨Int.fmod_nonneg_of_pos _ hb, Int.fmod_lt_of_pos _ hb⟩
theorem take_ev {h : Hh} {r : Nat} {n : Int} (B : BagAt h r) (h0 : 0 < n) (hn : n < 2 ^ 200) : ∃ v h', F_q_take [.ref r, I n] h = .ok (I v) h' ∧ BagAt h' r ∧ Oth h h' r ∧ 0 ≤ v ∧ v < n := by
  obtain ⟨g, m, p, c, e, hg, m0, m1, p0, p1⟩ := B
  have hr : r < h.length := (List.getElem?_eq_some_iff.mp e).1
  have nz : n ≠ 0 := by omega
  have pz : p ≠ 0 := by omega
  have dn : divOk n = true := divOk_of nz (by
    have : n.natAbs < 2 ^ 200 := by omega
    exact Nat.lt_trans this (Nat.pow_lt_pow_right (by decide) (by decide)))
  obtain ⟨a0, a1, a2, a3⟩ := at4 e
  by_cases z : 0 < g
  · obtain ⟨s0, _, _⟩ := set4 (v := I (g.fdiv n)) e
    refine ⟨g.fmod n, h.set r (.lst [I (g.fdiv n), I m, I p, I c]), ?_, ⟨g.fdiv n, m, p, c, List.getElem?_set_self hr, ?_, m0, m1, p0, p1⟩, Oth.set, fmod_in h0⟩
    · unfold F_q_take fnOfB b_q_take startS
      simp [a0, a1, a2, a3, s0, z, nz, dn]
    · rw [Int.fdiv_eq_ediv_of_nonneg _ (by omega)]
      exact Int.ediv_nonneg hg (by omega)
  · obtain ⟨_, _, s3⟩ := set4 (v := I (c + 1)) e
    have e1 : (h.set r (.lst [I g, I m, I p, I (c + 1)]))[r]? = some (.lst [I g, I m, I p, I (c + 1)]) := List.getElem?_set_self hr
    obtain ⟨b0, b1, b2, b3⟩ := at4 e1
    obtain ⟨_, t1, _⟩ := set4 (v := I ((m * 48271 + 7919 * (c + 1) + 11).fmod p)) e1
    have e2 : (h.set r (.lst [I g, I ((m * 48271 + 7919 * (c + 1) + 11).fmod p), I p, I (c + 1)]))[r]? = some (.lst [I g, I ((m * 48271 + 7919 * (c + 1) + 11).fmod p), I p, I (c + 1)]) := List.getElem?_set_self hr
    obtain ⟨c0, c1, c2, c3⟩ := at4 e2
    have fm := fmod_in (a := m * 48271 + 7919 * (c + 1) + 11) p0
    have k1 : mulOk m 48271 = true := mulOk_r (by decide)
    have k2 : mulOk 7919 (c + 1) = true := mulOk_l (by decide)
    have k3 : divOk 8 = true := by decide
    have k4 : powOk (((m * 48271 + 7919 * (c + 1) + 11).fmod p).fdiv 8) 3 = true := by
      unfold powOk
      rw [Int.fdiv_eq_ediv_of_nonneg _ (by omega)]
      simp only [Bool.and_eq_true, decide_eq_true_eq]
      refine ⟨⟨by decide, by decide⟩, ?_⟩
      have : (((m * 48271 + 7919 * (c + 1) + 11).fmod p) / 8) ≤ (m * 48271 + 7919 * (c + 1) + 11).fmod p := Int.ediv_le_self _ fm.1
      have : 0 ≤ (((m * 48271 + 7919 * (c + 1) + 11).fmod p) / 8) := Int.ediv_nonneg fm.1 (by omega)
      omega
    refine ⟨((((((m * 48271 + 7919 * (c + 1) + 11).fmod p).fdiv 8) ^ 3).fmod 2147483629).fmod n), _, ?_, ⟨g, _, p, c + 1, e2, hg, fm.1, by omega, p0, p1⟩, Oth.set, fmod_in h0⟩
    · unfold F_q_take fnOfB b_q_take startS
      simp [a0, a1, a2, a3, s3, z, nz, dn, b0, b1, b2, b3, t1, c0, c1, c2, c3, k1, k2, k3, k4, pz]
end R
namespace R
open PySem PySem.Spec PyProof.Rows L2 CI

theorem take_dn {n : Int} (h0 : 0 < n) (hn : n < 2 ^ 200) : divOk n = true := divOk_of (by omega) (by
    have : n.natAbs < 2 ^ 200 := by omega
    exact Nat.lt_trans this (by decide +kernel))
theorem idx_scr {ns : List Int} {k : Nat} {h : Hh} {v : Int} (e : ns[k]? = some v) : oIdx (.pv (.scr ns)) (I k) h = .ok (I v) h := by
  show (match rdl h (.pv (.scr ns)) with
    | some xs => (match atI xs (k : Int) with
      | some v => Res.ok v h
      | none => .stuck)
    | none => .stuck) = _
  show (match atI (ns.map fun n => Va.pv (.int n)) (k : Int) with
      | some v => Res.ok v h
      | none => .stuck) = _
  have hk := (List.getElem?_eq_some_iff.mp e).1
  have q : atI (ns.map fun n => Va.pv (.int n)) (k : Int) = some (I v) := by
    unfold atI ixN
    rw [if_pos (by omega), if_pos (by rw [List.length_map]; omega)]
    show ((ns.map fun n => Va.pv (.int n))[((k : Int)).toNat]?) = _
    rw [Int.toNat_natCast, List.getElem?_map, e]; rfl
  rw [q]
@[simp] theorem len_scr {ns : List Int} {h : Hh} : bLen [.pv (.scr ns)] h = .ok (I ns.length) h := by
  show Res.ok (I ((ns.map fun n => Va.pv (.int n)).length : Nat)) h = _
  rw [List.length_map]
theorem prime_at {k : Nat} (hk : k < 8) : ∃ p : Int, atI [I 2147483629, I 2147483587, I 2147483579, I 2147483563, I 2147483549, I 2147483543, I 2147483497, I 2147483489] ((k : Int).fmod 8) = some (I p) ∧ 0 < p ∧ p < 2 ^ 31 := by
  rcases k with _|_|_|_|_|_|_|_|k
  · exact ⟨_, rfl, by decide, by decide⟩
  · exact ⟨_, rfl, by decide, by decide⟩
  · exact ⟨_, rfl, by decide, by decide⟩
  · exact ⟨_, rfl, by decide, by decide⟩
  · exact ⟨_, rfl, by decide, by decide⟩
  · exact ⟨_, rfl, by decide, by decide⟩
  · exact ⟨_, rfl, by decide, by decide⟩
  · exact ⟨_, rfl, by decide, by decide⟩
  · omega
theorem bag_ev {ns : List Int} {k : Nat} {h : Hh} (hk : k < 8) : ∃ h', F_q_bag [.pv (.scr ns), I k] h = .ok (.ref h.length) h' ∧ BagAt h' h.length ∧ ∃ o, h' = h ++ [o] := by
  obtain ⟨p, hp, p0, p1⟩ := prime_at hk
  have pz : p ≠ 0 := by omega
  have main : ∀ g : Int, 0 ≤ g → (((k : Int) < ns.length ∧ ∃ v : Int, ns[k]? = some v ∧ (v.natAbs : Int) = g) ∨ (¬ (k : Int) < ns.length ∧ g = 0)) →
      ∃ h', F_q_bag [.pv (.scr ns), I k] h = .ok (.ref h.length) h' ∧ BagAt h' h.length ∧ ∃ o, h' = h ++ [o] := by
    intro g hg hc
    have fm := fmod_in (a := (g.fmod 2147483647 + 104729 * (k : Int) + 7) ^ 5) p0
    have gm := fmod_in (a := g) (b := 2147483647) (by decide)
    have k1 : mulOk 104729 (k : Int) = true := mulOk_l (by decide)
    have k4 : powOk (g.fmod 2147483647 + 104729 * (k : Int) + 7) 5 = true := by
      unfold powOk
      simp only [Bool.and_eq_true, decide_eq_true_eq]
      exact ⟨⟨by decide, by decide⟩, by omega⟩
    have k5 : powOk 10 18 = true := by decide
    have k6 : mulOk g (if 1000000000000000000 ≤ g then 1 else 0) = true := mulOk_r (by split <;> decide)
    have k7 : 0 ≤ g * (if 1000000000000000000 ≤ g then 1 else 0) := Int.mul_nonneg hg (by split <;> decide)
    have ei : oIdx (.pv (.lst [.int 2147483629, .int 2147483587, .int 2147483579, .int 2147483563, .int 2147483549, .int 2147483543, .int 2147483497, .int 2147483489])) (I ((k : Int).fmod 8)) h = .ok (I p) h := by
      rw [ev_idx_lst]
      show (match atI [I 2147483629, I 2147483587, I 2147483579, I 2147483563, I 2147483549, I 2147483543, I 2147483497, I 2147483489] ((k : Int).fmod 8) with | some v => Res.ok v h | none => .stuck) = _
      rw [hp]
    refine ⟨h ++ [.lst [I (g * (if 1000000000000000000 ≤ g then 1 else 0)), I (((g.fmod 2147483647 + 104729 * (k : Int) + 7) ^ 5).fmod p), I p, I 0]], ?_, ⟨_, _, p, 0, List.getElem?_concat_length, k7, fm.1, by omega, p0, p1⟩, _, rfl⟩
    unfold F_q_bag fnOfB b_q_bag startS
    rcases hc with ⟨c1, v, c2, c3⟩ | ⟨c1, c3⟩
    · have e0 := idx_scr (h := h) c2
      have c4 : k < ns.length := by omega
      simp [c1, c4, e0, c3, ei, k1, k4, k5, k6, pz]
    · have c4 : ¬ k < ns.length := by omega
      subst c3
      have k8 : mulOk 0 0 = true := by decide
      rw [Int.zero_fmod, Int.zero_add] at k4
      simp [c1, c4, ei, k1, k4, k5, k8, pz]
  by_cases z : k < ns.length
  · exact main _ (by omega) (.inl ⟨by omega, ns[k], List.getElem?_eq_getElem z, rfl⟩)
  · exact main 0 (by omega) (.inr ⟨by omega, rfl⟩)
theorem rng5 : rangeVa 0 5 = [I 0, I 1, I 2, I 3, I 4] := by rfl
theorem wide_ev {h : Hh} {r : Nat} {n : Int} (B : BagAt h r) (h0 : 0 < n) (hn : n < 2 ^ 200) : ∃ v h', F_q_wide [.ref r, I n] h = .ok (I v) h' ∧ BagAt h' r ∧ Oth h h' r ∧ 0 ≤ v ∧ v < n := by
  obtain ⟨v1, h1, e1, B1, o1, _, _⟩ := take_ev B (n := 1000000000) (by decide) (by decide)
  obtain ⟨v2, h2, e2, B2, o2, _, _⟩ := take_ev B1 (n := 1000000000) (by decide) (by decide)
  obtain ⟨v3, h3, e3, B3, o3, _, _⟩ := take_ev B2 (n := 1000000000) (by decide) (by decide)
  obtain ⟨v4, h4, e4, B4, o4, _, _⟩ := take_ev B3 (n := 1000000000) (by decide) (by decide)
  obtain ⟨v5, h5, e5, B5, o5, _, _⟩ := take_ev B4 (n := 1000000000) (by decide) (by decide)
  have m : ∀ x, mulOk x 1000000000 = true := fun x => mulOk_r (by decide)
  have k5 : powOk 10 9 = true := by decide
  have nz : n ≠ 0 := by omega
  refine ⟨((((((0 + v1) * 1000000000 + v2) * 1000000000 + v3) * 1000000000 + v4) * 1000000000) + v5).fmod n, h5, ?_, B5, o1.trans (o2.trans (o3.trans (o4.trans o5))), fmod_in h0⟩
  unfold F_q_wide fnOfB b_q_wide startS
  simp [ev_call, k5, rng5, m, e1, e2, e3, e4, e5, nz]
end R
namespace R
open PySem PySem.Spec PyProof.Rows L2 CI

/-! ### comprehensions over ints -/
theorem comp_ints {i : Nat} {c : Dt} {d : Dn} {s : Sl} {h : Hh} (q : Int → Bool) (f : Int → Int) : ∀ (ns : List Int) (acc : List Pv), (∀ n ∈ ns, c (s.set i (some (I n))) h = .ok (q n) h) → (∀ n ∈ ns, q n = true → d (s.set i (some (I n))) h = .ok (I (f n)) h) →
    compL (gNm i) c d s (ns.map I) acc h = .ok (.pv (.lst (acc ++ ((ns.filter q).map f).map .int))) h
  | [], acc, _, _ => by simp [compL]
  | n :: ns, acc, hc, hd => by
    have h1 := hc n (List.mem_cons_self ..)
    have ih := fun acc => comp_ints (i := i) (s := s) q f ns acc (fun m hm => hc m (List.mem_cons_of_mem _ hm)) (fun m hm => hd m (List.mem_cons_of_mem _ hm))
    cases hq : q n with
    | true =>
      have h2 := hd n (List.mem_cons_self ..) hq
      rw [hq] at h1
      rw [List.map_cons, compL]
      simp only [ev_gNm, h1, h2, ev_give, ih, List.filter_cons_of_pos hq]
      simp
    | false =>
      rw [hq] at h1
      rw [List.map_cons, compL]
      simp only [ev_gNm, h1, ih]
      rw [List.filter_cons_of_neg (by rw [hq]; decide)]
theorem lstInts_map {ns : List Int} {h : Hh} : lstInts h (.pv (.lst (ns.map .int))) = some ns := by
  show intsOf ((ns.map Pv.int).map Va.pv) = some ns
  induction ns with
  | nil => rfl
  | cons n ns ih => show (intsOf ((ns.map Pv.int).map Va.pv)).map (n :: ·) = _; rw [ih]; rfl
theorem max_map {n : Int} {ns : List Int} {h : Hh} : bMax [.pv (.lst ((n :: ns).map .int))] h = .ok (I (maxI (n :: ns))) h := by
  show bMax1 [.pv (.lst ((n :: ns).map .int))] h = _
  unfold bMax1
  dsimp only
  rw [lstInts_map]; rfl
theorem min_map {n : Int} {ns : List Int} {h : Hh} : bMin [.pv (.lst ((n :: ns).map .int))] h = .ok (I (minI (n :: ns))) h := by
  show bMin1 [.pv (.lst ((n :: ns).map .int))] h = _
  unfold bMin1
  dsimp only
  rw [lstInts_map]; rfl
theorem rng_ints {lo : Int} {n : Nat} : rangeVa lo n = ((List.range n).map fun i => lo + ((i : Nat) : Int)).map I := by
  unfold rangeVa
  rw [List.map_map]; rfl
theorem fdiv_fdiv' {t u p : Int} (hu : 0 < u) (hp : 0 < p) : (t.fdiv u).fdiv p = t.fdiv (u * p) := by
  rw [Int.fdiv_eq_ediv_of_nonneg _ (by omega), Int.fdiv_eq_ediv_of_nonneg _ (by omega), Int.fdiv_eq_ediv_of_nonneg _ (Int.le_of_lt (Int.mul_pos hu hp)), Int.ediv_ediv_of_nonneg (by omega)]
/-! ### the multiples near by -/
/-- six multiples of p about the b-th -/
def six (p b : Int) : List Int := [p * b - 2 * p, p * b - p, p * b, p * b + p, p * b + 2 * p, p * b + 3 * p]
theorem six_is {p b : Int} : ((List.range 6).map fun i => (b - 2) + ((i : Nat) : Int)).map (fun k => p * k) = six p b := by
  have r : List.range 6 = [0, 1, 2, 3, 4, 5] := by decide
  have e2 : p * (b - 2) = p * b - 2 * p := by rw [Int.mul_sub, Int.mul_comm p 2]
  rw [r]
  simp only [List.map_cons, List.map_nil, six, Int.mul_add, e2]
  simp
  omega
/-! ### for -/
theorem forL_inv {t : Tg} {b : Sn} (Z : Sl → Hh → Prop) : ∀ (xs : List Va) (s : Sl) (h : Hh), Z s h → (∀ x ∈ xs, ∀ s h, Z s h → ∃ s1, t.put x s h = some s1 ∧ ∃ s2 h2, (b s1 h = .nx s2 h2 ∨ b s1 h = .ct s2 h2) ∧ Z s2 h2) → ∃ s' h', forL t b xs s h = .nx s' h' ∧ Z s' h'
  | [], s, h, z, _ => ⟨s, h, rfl, z⟩
  | x :: xs, s, h, z, f => by
    obtain ⟨s1, e1, s2, h2, e2, z2⟩ := f x (List.mem_cons_self ..) s h z
    obtain ⟨s', h', e3, z3⟩ := forL_inv Z xs s2 h2 z2 fun y hy => f y (List.mem_cons_of_mem _ hy)
    refine ⟨s', h', ?_, z3⟩
    rw [ev_forL_cons, e1]
    rcases e2 with e2 | e2 <;> simp [e2, e3]
theorem mem_rng {x : Va} {n : Nat} (h : x ∈ rangeVa 0 n) : ∃ k : Nat, k < n ∧ x = I k := by
  unfold rangeVa at h
  obtain ⟨k, hk, e⟩ := List.mem_map.mp h
  exact ⟨k, List.mem_range.mp hk, by rw [← e, Int.zero_add]⟩
@[simp] theorem tru_bl {b : Bool} {h : Hh} : truth h (.pv (.bl b)) = some b := rfl
end R
set_option exponentiation.threshold 10000
namespace R
open PySem PySem.Spec PyProof.Rows L2 CI
/-- what the rounded is at most -/
theorem mc_near {t S : Int} {w : Str} (h : 0 < S) : t.fdiv S ≤ mc t S w ∧ mc t S w ≤ t.fdiv S + 1 := by
  have g : (t.fdiv S).fmod 2 = 0 ∨ (t.fdiv S).fmod 2 = 1 := by
    have := fmod_in (a := t.fdiv S) (b := 2) (by decide)
    omega
  unfold mc
  split
  · omega
  · split
    · omega
    · split
      · split <;> omega
      · split
        · omega
        · split <;> omega
theorem fdiv_abs {t S : Int} (h : 0 < S) : (t.fdiv S).natAbs ≤ t.natAbs + 1 := by
  have e := Int.mul_fdiv_add_fmod t S
  obtain ⟨a, b⟩ := fmod_in (a := t) h
  rw [Int.fdiv_eq_ediv_of_nonneg _ (by omega)]
  have := Int.natAbs_ediv_le_natAbs t S
  omega
theorem mul_bnd {a b : Int} {x y : Nat} (ha : a.natAbs < 2 ^ x) (hb : b.natAbs < 2 ^ y) : (a * b).natAbs < 2 ^ (x + y) := by
  rw [Int.natAbs_mul, Nat.pow_add]
  exact Nat.mul_lt_mul'' ha hb
theorem lw_bnd {t u : Int} (h : u ≠ 0) : (t.fdiv (lwP t u)).natAbs ≤ t.natAbs + 1 ∧ (u.fdiv (lwP t u)).natAbs ≤ u.natAbs + 1 := by
  have key : ∀ a q : Int, q ≠ 0 → (a.fdiv q).natAbs ≤ a.natAbs + 1 := fun a q hq => by
    rcases Int.lt_or_gt_of_ne hq with z | z
    · have e := Int.neg_fdiv_neg a q
      rw [← e]
      have := fdiv_abs (t := -a) (S := -q) (by omega)
      omega
    · exact fdiv_abs z
  have z := (lwP_le (t := t) h).2
  exact ⟨key t _ z, key u _ z⟩
theorem big {a b : Nat} (h : a < 2 ^ b) {c : Nat} (hbc : b ≤ c) : a < 2 ^ c := Nat.lt_of_lt_of_le h (Nat.pow_le_pow_right (by decide) hbc)
theorem low_is {t u : Int} (h : u ≠ 0) : ∃ P T U : Int, P ≠ 0 ∧ t = P * T ∧ u = P * U ∧ lwP t u = P ∧ t.fdiv P = T ∧ u.fdiv P = U ∧ 0 < U ∧ Nat.gcd T.natAbs U.natAbs = 1 := by
  obtain ⟨_, hP⟩ := lwP_le (t := t) h
  have g0 : 0 < Nat.gcd t.natAbs u.natAbs := Nat.gcd_pos_of_pos_right _ (by omega)
  have dt : ((Nat.gcd t.natAbs u.natAbs : Nat) : Int) ∣ t := Int.ofNat_dvd_left.mpr (Nat.gcd_dvd_left ..)
  have du : ((Nat.gcd t.natAbs u.natAbs : Nat) : Int) ∣ u := Int.ofNat_dvd_left.mpr (Nat.gcd_dvd_right ..)
  have aP : (lwP t u).natAbs = Nat.gcd t.natAbs u.natAbs := by unfold lwP; split <;> omega
  have dt' : lwP t u ∣ t := by rw [← Int.natAbs_dvd, aP]; exact dt
  have du' : lwP t u ∣ u := by rw [← Int.natAbs_dvd, aP]; exact du
  obtain ⟨T, hT⟩ := dt'
  obtain ⟨U, hU⟩ := du'
  have f1 : t.fdiv (lwP t u) = T := by conv => lhs; arg 1; rw [hT]
                                       exact Int.mul_fdiv_cancel_left _ hP
  have f2 : u.fdiv (lwP t u) = U := by conv => lhs; arg 1; rw [hU]
                                       exact Int.mul_fdiv_cancel_left _ hP
  refine ⟨lwP t u, T, U, hP, hT, hU, rfl, f1, f2, ?_, ?_⟩
  · by_cases n : u < 0
    · have q : lwP t u < 0 := by unfold lwP; rw [if_pos n]; omega
      by_cases z : 0 < U
      · exact z
      · exfalso
        have : 0 ≤ lwP t u * U := Int.mul_nonneg_of_nonpos_of_nonpos (by omega) (by omega)
        omega
    · have q : 0 < lwP t u := by unfold lwP; rw [if_neg n]; omega
      by_cases z : 0 < U
      · exact z
      · exfalso
        have : lwP t u * U ≤ 0 := Int.mul_nonpos_of_nonneg_of_nonpos (by omega) (by omega)
        omega
  · have e1 : t.natAbs = Nat.gcd t.natAbs u.natAbs * T.natAbs := by
      have := congrArg Int.natAbs hT
      rw [Int.natAbs_mul, aP] at this
      exact this
    have e2 : u.natAbs = Nat.gcd t.natAbs u.natAbs * U.natAbs := by
      have := congrArg Int.natAbs hU
      rw [Int.natAbs_mul, aP] at this
      exact this
    have e3 : Nat.gcd t.natAbs u.natAbs = Nat.gcd t.natAbs u.natAbs * Nat.gcd T.natAbs U.natAbs := by
      have q : ∀ g a b : Nat, t.natAbs = g * a → u.natAbs = g * b → Nat.gcd t.natAbs u.natAbs = g * Nat.gcd a b := fun g a b h1 h2 => by rw [h1, h2, Nat.gcd_mul_left]
      exact q _ _ _ e1 e2
    have := Nat.eq_of_mul_eq_mul_left g0 (e3.symm.trans (Nat.mul_one _).symm)
    exact this
theorem low_uniq {t u T U : Int} (h : u ≠ 0) (hU : 0 < U) (hg : Nat.gcd T.natAbs U.natAbs = 1) (e : t * U = T * u) : t.fdiv (lwP t u) = T ∧ u.fdiv (lwP t u) = U := by
  obtain ⟨P, T', U', hP, ht, hu, e1, e2, e3, hU', hg'⟩ := low_is (t := t) h
  rw [e1, e2, e3]
  have k : T' * U = T * U' := by
    have : P * (T' * U) = P * (T * U') := by rw [ht, hu] at e; grind
    exact Int.eq_of_mul_eq_mul_left hP this
  have n : T'.natAbs * U.natAbs = T.natAbs * U'.natAbs := by
    have := congrArg Int.natAbs k
    rw [Int.natAbs_mul, Int.natAbs_mul] at this
    exact this
  have d1 : U'.natAbs ∣ U.natAbs := by
    have : U'.natAbs ∣ T'.natAbs * U.natAbs := ⟨T.natAbs, by rw [n, Nat.mul_comm]⟩
    exact (Nat.Coprime.dvd_of_dvd_mul_left (show Nat.Coprime U'.natAbs T'.natAbs by rw [Nat.Coprime, Nat.gcd_comm]; exact hg') this)
  have d2 : U.natAbs ∣ U'.natAbs := by
    have : U.natAbs ∣ T.natAbs * U'.natAbs := ⟨T'.natAbs, by rw [← n, Nat.mul_comm]⟩
    exact (Nat.Coprime.dvd_of_dvd_mul_left (show Nat.Coprime U.natAbs T.natAbs by rw [Nat.Coprime, Nat.gcd_comm]; exact hg) this)
  have d3 := Nat.dvd_antisymm d1 d2
  have d4 : U' = U := by omega
  refine ⟨?_, d4⟩
  rw [d4] at k
  exact Int.eq_of_mul_eq_mul_right (by omega) k
theorem any_at {L : List Pv} {v : Int} {h : Hh} (h0 : 0 ≤ v) (h1 : v < L.length) : ∃ p ∈ L, oIdx (.pv (.lst L)) (I v) h = .ok (.pv p) h := by
  have hv : v.toNat < L.length := by omega
  refine ⟨L[v.toNat], List.getElem_mem hv, ?_⟩
  rw [ev_idx_lst]
  have : atI (L.map Va.pv) v = some (.pv L[v.toNat]) := by
    unfold atI ixN
    rw [if_pos h0, if_pos (by rw [List.length_map]; exact h1)]
    show (L.map Va.pv)[v.toNat]? = _
    rw [List.getElem?_map, List.getElem?_eq_getElem hv]; rfl
  rw [this]
theorem ev_eqR {n : Bool} {a b c d : Int} {h : Hh} : oEqN n (.pv (rat a b)) (.pv (rat c d)) h = .ok (.pv (.bl (if n then !(decide (a = c) && decide (b = d)) else (decide (a = c) && decide (b = d))))) h := by
  have e : oEqN n (.pv (rat a b)) (.pv (rat c d)) h = .ok (.pv (.bl (if n then !((a == c) && ((b == d) && true)) else ((a == c) && ((b == d) && true))))) h := by cases n <;> rfl
  rw [e]
  have q : ∀ x y : Int, (x == y) = decide (x = y) := fun x y => by
    by_cases z : x = y <;> simp [z]
  rw [q, q, Bool.and_true]
theorem rep_i {i : Int} {h : Hh} (hs : showOk (.int i) = true) : bRepr [.pv (.int i)] h = .ok (.pv (.str (PyData.shown (.int i)))) h := ev_repr rfl hs
theorem rep_r {t u : Int} {h : Hh} (hs : showOk (.tuple [.int t, .int u]) = true) : bRepr [.pv (rat t u)] h = .ok (.pv (.str (PyData.shown (.tuple [.int t, .int u])))) h := ev_repr rfl hs
theorem rep_b {b : Bool} {h : Hh} : bRepr [.pv (.bl b)] h = .ok (.pv (.str (PyData.shown (.bool b)))) h := ev_repr rfl (by cases b <;> decide +kernel)
theorem p_gcd (a b : Nat) : pcall F_q_gcd [.int a, .int b] = .ok (.int (Nat.gcd a b : Nat)) := by
  refine pcall_of (h' := []) ?_
  unfold F_q_gcd fnOfB b_q_gcd startS
  simp [gcdW_ev]
@[simp] theorem len_tup {ps : List Pv} {h : Hh} : bLen [.pv (.tup ps)] h = .ok (I ps.length) h := by
  show Res.ok (I ((ps.map Va.pv).length : Nat)) h = _
  rw [List.length_map]
@[simp] theorem len_lst {ps : List Pv} {h : Hh} : bLen [.pv (.lst ps)] h = .ok (I ps.length) h := by
  show Res.ok (I ((ps.map Va.pv).length : Nat)) h = _
  rw [List.length_map]
/-! ### rounding -/
theorem fdm {t S q r : Int} (h : 0 < S) (e : t = S * q + r) (r0 : 0 ≤ r) (r1 : r < S) : t.fdiv S = q ∧ t.fmod S = r := by
  have e1 := Int.mul_fdiv_add_fmod t S
  obtain ⟨a, b⟩ := fmod_in (a := t) h
  have d : S * (t.fdiv S - q) = r - t.fmod S := by rw [Int.mul_sub]; omega
  have z : t.fdiv S - q = 0 := by
    rcases Int.lt_trichotomy (t.fdiv S - q) 0 with x | x | x
    · have : S * (t.fdiv S - q) ≤ S * (-1) := Int.mul_le_mul_of_nonneg_left (by omega) (by omega)
      omega
    · exact x
    · have : S * 1 ≤ S * (t.fdiv S - q) := Int.mul_le_mul_of_nonneg_left (by omega) (by omega)
      omega
  rw [z, Int.mul_zero] at d
  omega
theorem fm2 (x : Int) : x.fmod 2 = x % 2 := Int.fmod_eq_emod_of_nonneg _ (by decide)
theorem mc_at {t S q r : Int} {w : Str} (h : 0 < S) (e : t = S * q + r) (r0 : 0 ≤ r) (r1 : r < S) : mc t S w =
    if r = 0 ∨ w = ("down" : Str) then q else if w = ("up" : Str) then q + 1 else if 2 * r ≠ S then q + (if 2 * r > S then 1 else 0) else if w = ("even" : Str) then q + q % 2 else q + (if w = ("upper" : Str) then 1 else 0) := by
  obtain ⟨a, b⟩ := fdm h e r0 r1
  unfold mc
  rw [a, b, fm2]
theorem qr {t S : Int} (h : 0 < S) : ∃ q r, t = S * q + r ∧ 0 ≤ r ∧ r < S := ⟨t.fdiv S, t.fmod S, (Int.mul_fdiv_add_fmod t S).symm, (fmod_in h).1, (fmod_in h).2⟩
theorem mc_shift {t S k : Int} {w : Str} (h : 0 < S) (hk : w = ("even" : Str) → 2 * t.fmod S = S → k % 2 = 0) : mc (t + k * S) S w = mc t S w + k := by
  obtain ⟨q, r, e, r0, r1⟩ := qr (t := t) h
  have e2 : t + k * S = S * (q + k) + r := by rw [Int.mul_add, e, Int.mul_comm S k]; omega
  rw [(fdm h e r0 r1).2] at hk
  rw [mc_at h e r0 r1, mc_at h e2 r0 r1]
  split
  · omega
  · split
    · omega
    · split
      · omega
      · split
        · rename_i z1 z2
          have := hk z2 (by omega)
          omega
        · omega
theorem mc_scale {t S P : Int} {w : Str} (h : 0 < S) (hP : 0 < P) : mc (P * t) (P * S) w = mc t S w := by
  obtain ⟨q, r, e, r0, r1⟩ := qr (t := t) h
  have hPS : 0 < P * S := Int.mul_pos hP h
  have e2 : P * t = (P * S) * q + P * r := by rw [e, Int.mul_add, Int.mul_assoc]
  have p0 : 0 ≤ P * r := Int.mul_nonneg (by omega) r0
  have p1 : P * r < P * S := Int.mul_lt_mul_of_pos_left r1 hP
  rw [mc_at h e r0 r1, mc_at hPS e2 p0 p1]
  have c1 : P * r = 0 ↔ r = 0 := ⟨fun z => by
    rcases Int.mul_eq_zero.mp z with z | z
    · omega
    · exact z, fun z => by rw [z, Int.mul_zero]⟩
  have c2 : 2 * (P * r) = P * S ↔ 2 * r = S := ⟨fun z => Int.eq_of_mul_eq_mul_left (a := P) (by omega) (by rw [← z]; grind), fun z => by rw [← z]; grind⟩
  have c3 : 2 * (P * r) > P * S ↔ 2 * r > S := ⟨fun z => by
    by_cases y : 2 * r > S
    · exact y
    · exfalso
      have : P * (2 * r) ≤ P * S := Int.mul_le_mul_of_nonneg_left (by omega) (by omega)
      have : P * (2 * r) = 2 * (P * r) := by grind
      omega, fun z => by
    have : P * S < P * (2 * r) := Int.mul_lt_mul_of_pos_left z hP
    have : P * (2 * r) = 2 * (P * r) := by grind
    omega⟩
  simp only [c1, c2, c3, ne_eq]
theorem mc_mono1 {a b S : Int} {w : Str} (h : 0 < S) (hab : a ≤ b) : mc a S w ≤ mc b S w := by
  obtain ⟨q, r, e, r0, r1⟩ := qr (t := a) h
  obtain ⟨q', r', e', r0', r1'⟩ := qr (t := b) h
  have n1 := mc_near (t := a) (w := w) h
  have n2 := mc_near (t := b) (w := w) h
  rw [(fdm h e r0 r1).1] at n1
  rw [(fdm h e' r0' r1').1] at n2
  rcases Int.lt_trichotomy q q' with z | z | z
  · omega
  · subst z
    rw [mc_at h e r0 r1, mc_at h e' r0' r1']
    have hr : r ≤ r' := by omega
    have g : q % 2 = 0 ∨ q % 2 = 1 := by omega
    by_cases c0 : w = ("down" : Str)
    · simp [c0]
    · by_cases c1 : w = ("up" : Str)
      · simp only [c1, w1, or_false, if_true]
        split <;> split <;> omega
      · simp only [c0, c1, or_false, if_false]
        split
        · split
          · omega
          · split
            · split <;> omega
            · split
              · omega
              · split <;> omega
        · rw [if_neg (show ¬ r' = 0 by omega)]
          split
          · split
            · split
              · split <;> omega
              · omega
            · split
              · split <;> omega
              · split
                · omega
                · split <;> omega
          · split
            · split
              · split <;> omega
              · omega
            · omega
  · exfalso
    have : S * (q' + 1) ≤ S * q := Int.mul_le_mul_of_nonneg_left (by omega) (by omega)
    rw [Int.mul_add] at this
    omega
theorem mc_mono {t1 S1 t2 S2 : Int} {w : Str} (h1 : 0 < S1) (h2 : 0 < S2) (h : t1 * S2 ≤ t2 * S1) : mc t1 S1 w ≤ mc t2 S2 w := by
  rw [← mc_scale (P := S2) h1 h2, ← mc_scale (t := t2) (P := S1) h2 h1, Int.mul_comm S2 S1]
  exact mc_mono1 (Int.mul_pos h1 h2) (by rw [Int.mul_comm S2 t1, Int.mul_comm S1 t2]; exact h)
end R
set_option exponentiation.threshold 10000
namespace K02
open PySem PySem.Spec PyProof.Rows L2 CI R
@[simp] theorem ap_ratio (x y : Va) : a_q_ratio 2 [] [x, y] [] = [x, y] := by rfl
@[simp] theorem ap_moved (x y z w : Va) : a_q_moved 4 [] [x, y, z, w] [] = [x, y, z, w] := by rfl
@[simp] theorem ap_rises (x y z w : Va) : a_q_rises 4 [] [x, y, z, w] [] = [x, y, z, w] := by rfl
@[simp] theorem ap_lr (x y z : Va) : a_q_left_right 3 [] [x, y, z] [] = [x, y, z] := by rfl
def five : List Str := [("down" : Str), ("up" : Str), ("upper" : Str), ("lower" : Str), ("even" : Str)]
theorem in_five {w : Str} (h : w ∈ five) : w = ("down" : Str) ∨ w = ("up" : Str) ∨ w = ("upper" : Str) ∨ w = ("lower" : Str) ∨ w = ("even" : Str) := by simpa [five] using h
/-! ### what is so of rounding -/
theorem mc_neg {t S : Int} (h : 0 < S) : mc (-t) S ("up" : Str) = -1 * mc t S ("down" : Str) ∧ mc (-t) S ("down" : Str) = -1 * mc t S ("up" : Str) ∧ mc (-t) S ("lower" : Str) = -1 * mc t S ("upper" : Str) ∧ mc (-t) S ("upper" : Str) = -1 * mc t S ("lower" : Str) ∧ mc (-t) S ("even" : Str) = -1 * mc t S ("even" : Str) := by
  obtain ⟨q, r, e, r0, r1⟩ := qr (t := t) h
  by_cases z : r = 0
  · have e2 : -t = S * (-q) + 0 := by rw [e, z, Int.mul_neg]; omega
    rw [mc_at h e r0 r1, mc_at h e r0 r1, mc_at h e r0 r1, mc_at h e r0 r1, mc_at h e r0 r1, mc_at h e2 (by omega) h, mc_at h e2 (by omega) h, mc_at h e2 (by omega) h, mc_at h e2 (by omega) h, mc_at h e2 (by omega) h]
    simp [z]
  · have e2 : -t = S * (-q - 1) + (S - r) := by rw [e, Int.mul_sub, Int.mul_neg]; omega
    have n : ¬ S - r = 0 := by omega
    have g : q % 2 = 0 ∨ q % 2 = 1 := by omega
    rw [mc_at h e r0 r1, mc_at h e r0 r1, mc_at h e r0 r1, mc_at h e r0 r1, mc_at h e r0 r1, mc_at h e2 (by omega) (by omega), mc_at h e2 (by omega) (by omega), mc_at h e2 (by omega) (by omega), mc_at h e2 (by omega) (by omega), mc_at h e2 (by omega) (by omega)]
    simp only [z, n, w1, w2, w3, w4, w5, w6, w7, w8, w9, w10, w11, w12, false_or, or_true, if_true, if_false, ne_eq, gt_iff_lt]
    by_cases t1 : 2 * r = S
    · have t2 : 2 * (S - r) = S := by omega
      simp only [t1, t2, not_true, if_false]
      omega
    · have t2 : ¬ 2 * (S - r) = S := by omega
      simp only [t1, t2, not_false_eq_true, if_true]
      by_cases t3 : S < 2 * r
      · have t4 : ¬ S < 2 * (S - r) := by omega
        simp only [t3, t4, if_true, if_false]; omega
      · have t4 : S < 2 * (S - r) := by omega
        simp only [t3, t4, if_true, if_false]; omega
theorem lies {t S A : Int} (h : 0 < S) {w : Str} (hA : A = t - mc t S w * S) : (w = ("down" : Str) → 0 ≤ 2 * A ∧ 2 * A < 2 * S) ∧ (w = ("up" : Str) → -2 * S < 2 * A ∧ 2 * A ≤ 0) ∧ (w = ("upper" : Str) → -1 * S ≤ 2 * A ∧ 2 * A < S) ∧
    (w = ("lower" : Str) → -1 * S < 2 * A ∧ 2 * A ≤ S) ∧ (w = ("even" : Str) → -1 * S ≤ 2 * A ∧ 2 * A ≤ S) ∧ (w = ("even" : Str) → ((2 * A).natAbs : Int) = S → mc t S w % 2 = 0) ∧ (w = ("even" : Str) → 2 * t.fmod S = S → mc t S w % 2 = 0) := by
  obtain ⟨q, r, e, r0, r1⟩ := qr (t := t) h
  rw [(fdm h e r0 r1).2]
  have g : q % 2 = 0 ∨ q % 2 = 1 := by omega
  have k : mc t S w = q ∧ A = r ∨ mc t S w = q + 1 ∧ A = r - S := by
    have n := mc_near (t := t) (w := w) h
    rw [(fdm h e r0 r1).1] at n
    have : mc t S w = q ∨ mc t S w = q + 1 := by omega
    rcases this with z | z
    · refine .inl ⟨z, ?_⟩
      rw [hA, z, e, Int.mul_comm q S]; omega
    · refine .inr ⟨z, ?_⟩
      rw [hA, z, e, Int.add_mul, Int.mul_comm q S]; omega
  have m := mc_at (w := w) h e r0 r1
  refine ⟨?_, ?_, ?_, ?_, ?_, ?_, ?_⟩
  all_goals intro hw; subst hw
  all_goals simp only [w1, w2, w3, w4, w5, w6, w7, w8, w9, w10, w11, w12, or_true, or_false, if_true, if_false, ne_eq, gt_iff_lt] at m
  · omega
  · split at m <;> omega
  · split at m
    · omega
    · split at m
      · split at m <;> omega
      · omega
  · split at m
    · omega
    · split at m
      · split at m <;> omega
      · omega
  · split at m
    · omega
    · split at m
      · split at m <;> omega
      · omega
  · intro ht
    split at m
    · omega
    · split at m
      · split at m <;> omega
      · omega
  · intro ht
    have z : ¬ r = 0 := by omega
    rw [if_neg z, if_neg (by omega)] at m
    omega
end K02
set_option exponentiation.threshold 10000
namespace K02
open PySem PySem.Spec PyProof.Rows L2 CI R
/-- the ratios that are drawn: in lowest terms -/
def Fit (t u : Int) : Prop := 0 < u ∧ u.natAbs < 2 ^ 50 ∧ t.natAbs < 2 ^ 200 ∧ Nat.gcd t.natAbs u.natAbs = 1
theorem gcd_shift {t u k : Int} (h : Nat.gcd t.natAbs u.natAbs = 1) : Nat.gcd (t + k * u).natAbs u.natAbs = 1 := by
  have e : Int.gcd (t + k * u) u = Int.gcd t u := by
    rw [Int.gcd_add_mul_right_left]
  exact e.trans h
theorem low_self {t u : Int} (h : 0 < u) (g : Nat.gcd t.natAbs u.natAbs = 1) : low t u = rat t u := by
  obtain ⟨a, b⟩ := low_uniq (t := t) (u := u) (T := t) (U := u) (by omega) h g rfl
  show rat _ _ = _
  rw [a, b]
theorem idx_dct {h : Hh} {r : Nat} {kvs : List (Key × Va)} {k : Key} {y v : Va} (e : h[r]? = some (.dct kvs)) (hk : keyOf y = some k) (hv : vaL kvs k = some v) : oIdx (.ref r) y h = .ok v h := by
  have d : dctOf h (.ref r) = some kvs := by
    unfold dctOf
    dsimp only
    rw [e]
  unfold oIdx
  rw [d]
  dsimp only
  rw [hk]
  show (match vaL kvs k with | some v => Res.ok v h | none => .stuck) = _
  rw [hv]
theorem bag_more {h : Hh} {r : Nat} {o : Ob} (B : BagAt h r) : BagAt (h ++ [o]) r := by
  obtain ⟨g, m, p, c, e, z⟩ := B
  exact ⟨g, m, p, c, by rw [List.getElem?_append_left (List.getElem?_eq_some_iff.mp e).1]; exact e, z⟩
theorem last_at {h : Hh} {o : Ob} : (h ++ [o])[h.length]? = some o := List.getElem?_concat_length
theorem set_last {h : Hh} {o o' : Ob} : (h ++ [o]).set h.length o' = h ++ [o'] := by
  rw [List.set_append_right _ _ (Nat.le_refl _), Nat.sub_self]; rfl
abbrev turned : List (Key × Va) := [(.inr ("down" : Str), .pv (.str ("up" : Str))), (.inr ("up" : Str), .pv (.str ("down" : Str))), (.inr ("upper" : Str), .pv (.str ("lower" : Str))), (.inr ("lower" : Str), .pv (.str ("upper" : Str))), (.inr ("even" : Str), .pv (.str ("even" : Str)))]
theorem merged : mergeV [] turned = turned := by rfl
theorem p_moved {t u p v : Int} {w : Str} (hf : Fit t u) (hp : 0 < p) (hp2 : p < 13) (hv : -1000 ≤ v) (hv2 : v ≤ 1000) (hw : w ∈ five) (hev : w = ("even" : Str) → v % 2 = 0) :
    pcall F_lowest [.int (t + v * p * u), .int u] = .ok (rat (t + v * p * u) u) ∧ pcall F_rounded [rat (t + v * p * u) u, .int p, .str w] = .ok (.int (p * mc t (u * p) w + v * p)) := by
  obtain ⟨u0, u1, t1, g⟩ := hf
  have S0 : 0 < u * p := Int.mul_pos u0 hp
  have hl := p_lowest (t := t + v * p * u) (u := u) (by omega) (big u1 (by decide))
  have e := low_self (t := t + v * p * u) u0 (gcd_shift g)
  have hl : pcall F_lowest [.int (t + v * p * u), .int u] = .ok (low (t + v * p * u) u) := hl
  rw [e] at hl
  refine ⟨hl, ?_⟩
  have Sz : (u * p).natAbs < 2 ^ (50 + 4) := mul_bnd u1 (by omega)
  have hr := p_rounded (t := t + v * p * u) (u := u) (c := p) (r := w) (by omega) (big Sz (by decide)) (by omega)
  have sh := mc_shift (t := t) (k := v) (w := w) S0 (fun a _ => hev a)
  have e3 : t + v * p * u = t + v * (u * p) := by grind
  rw [e3, sh] at hr
  rw [e3, hr]
  congr 2
  grind
theorem moved_ev {h : Hh} {r : Nat} {t u p : Int} {w : Str} (B : BagAt h r) (hf : Fit t u) (hp : 0 < p) (hp2 : p < 13) (hw : w ∈ five) : ∃ h', F_q_moved [.ref r, .pv (rat t u), I p, .pv (.str w)] h = .ok (.pv (.bl true)) h' ∧ BagAt h' r := by
  obtain ⟨v, h1, e1, B1, _, v0, v1⟩ := take_ev B (n := 1000) (by decide) (by decide)
  have S0 : 0 < u * p := Int.mul_pos hf.1 hp
  have Sz : (u * p).natAbs < 2 ^ (50 + 4) := mul_bnd hf.2.1 (by omega)
  have r1 := fun w => p_rounded (t := t) (u := u) (c := p) (r := w) (by omega) (big Sz (by decide)) (by omega)
  have r2 := fun w => p_rounded (t := -t) (u := u) (c := p) (r := w) (by omega) (big Sz (by decide)) (by omega)
  have m1 : ∀ x, mulOk x p = true := fun x => mulOk_r (by omega)
  have m2 : ∀ x, mulOk x u = true := fun x => mulOk_r (big hf.2.1 (by decide))
  have m3 : ∀ x, mulOk 2 x = true := fun x => mulOk_l (by decide)
  have m4 : ∀ x, mulOk (-1) x = true := fun x => mulOk_l (by decide)
  obtain ⟨n1, n2, n3, n4, n5⟩ := mc_neg (t := t) S0
  have q : ∀ a b : Int, a = -1 * b → p * a = -(p * b) := fun a b e => by rw [e]; grind
  refine ⟨h1 ++ [.dct turned], ?_, bag_more B1⟩
  have ix : ∀ w v, vaL turned (.inr w) = some v → oIdx (.ref h1.length) (.pv (.str w)) (h1 ++ [.dct turned]) = .ok v (h1 ++ [.dct turned]) := fun w v hv => idx_dct last_at rfl hv
  rcases in_five hw with rfl | rfl | rfl | rfl | rfl
  · obtain ⟨a, b⟩ := p_moved (v := v - 500) hf hp hp2 (by omega) (by omega) hw (fun z => absurd z w13)
    have i := ix ("down" : Str) _ rfl
    unfold F_q_moved fnOfB b_q_moved startS
    simp [ev_call, ev_callP, e1, r1, r2, m1, m2, m3, m4, a, b, last_at, set_last, merged, i, w13, q _ _ n1]
  · obtain ⟨a, b⟩ := p_moved (v := v - 500) hf hp hp2 (by omega) (by omega) hw (fun z => absurd z w15)
    have i := ix ("up" : Str) _ rfl
    unfold F_q_moved fnOfB b_q_moved startS
    simp [ev_call, ev_callP, e1, r1, r2, m1, m2, m3, m4, a, b, last_at, set_last, merged, i, w15, q _ _ n2]
  · obtain ⟨a, b⟩ := p_moved (v := v - 500) hf hp hp2 (by omega) (by omega) hw (fun z => absurd z w8)
    have i := ix ("upper" : Str) _ rfl
    unfold F_q_moved fnOfB b_q_moved startS
    simp [ev_call, ev_callP, e1, r1, r2, m1, m2, m3, m4, a, b, last_at, set_last, merged, i, w8, q _ _ n3]
  · obtain ⟨a, b⟩ := p_moved (v := v - 500) hf hp hp2 (by omega) (by omega) hw (fun z => absurd z w9)
    have i := ix ("lower" : Str) _ rfl
    unfold F_q_moved fnOfB b_q_moved startS
    simp [ev_call, ev_callP, e1, r1, r2, m1, m2, m3, m4, a, b, last_at, set_last, merged, i, w9, q _ _ n4]
  · obtain ⟨a, b⟩ := p_moved (v := 2 * (v - 500)) hf hp hp2 (by omega) (by omega) hw (fun z => by omega)
    have i := ix ("even" : Str) _ rfl
    unfold F_q_moved fnOfB b_q_moved startS
    simp [ev_call, ev_callP, e1, r1, r2, m1, m2, m3, m4, a, b, last_at, set_last, merged, i, q _ _ n5]
theorem p_rises {t u t' u' p : Int} {w : Str} (hf : Fit t u) (hf' : Fit t' u') (hp : 0 < p) (hp2 : p < 13) : pcall F_q_rises [rat t u, rat t' u', .int p, .str w] = .ok (.bl true) := by
  refine pcall_of (h' := []) ?_
  have S0 : 0 < u * p := Int.mul_pos hf.1 hp
  have S0' : 0 < u' * p := Int.mul_pos hf'.1 hp
  have Sz : (u * p).natAbs < 2 ^ (50 + 4) := mul_bnd hf.2.1 (by omega)
  have Sz' : (u' * p).natAbs < 2 ^ (50 + 4) := mul_bnd hf'.2.1 (by omega)
  have r1 := p_rounded (t := t) (u := u) (c := p) (r := w) (by omega) (big Sz (by decide)) (by omega)
  have r2 := p_rounded (t := t') (u := u') (c := p) (r := w) (by omega) (big Sz' (by decide)) (by omega)
  have m2 : ∀ x, mulOk x u = true := fun x => mulOk_r (big hf.2.1 (by decide))
  have m3 : ∀ x, mulOk x u' = true := fun x => mulOk_r (big hf'.2.1 (by decide))
  unfold F_q_rises fnOfB b_q_rises startS
  by_cases z : t' * u < t * u'
  · have h : t' * (u * p) ≤ t * (u' * p) := by
      rw [← Int.mul_assoc, ← Int.mul_assoc]
      exact Int.mul_le_mul_of_nonneg_right (by omega) (by omega)
    have k : p * mc t' (u' * p) w ≤ p * mc t (u * p) w := Int.mul_le_mul_of_nonneg_left (mc_mono S0' S0 h) (by omega)
    simp [ev_callP, r1, r2, m2, m3, z, k]
  · have h : t * (u' * p) ≤ t' * (u * p) := by
      rw [← Int.mul_assoc, ← Int.mul_assoc]
      exact Int.mul_le_mul_of_nonneg_right (by omega) (by omega)
    have k : p * mc t (u * p) w ≤ p * mc t' (u' * p) w := Int.mul_le_mul_of_nonneg_left (mc_mono S0 S0' h) (by omega)
    simp [ev_callP, r1, r2, m2, m3, z, k]
@[simp] theorem ev_dChn {f g : Op2} {a b c : Dn} {s : Sl} {h : Hh} : dChn f g a b c s h = (a s h).bind fun x h1 => (b s h1).bind fun y h2 => (asB (f x y h2)).bind fun k h3 => if k then (c s h3).bind fun z h4 => g y z h4 else .ok (.pv (.bl false)) h3 := rfl
theorem ite_ok {c d : Bool} {h : Hh} : (if c = true then Res.ok (Va.pv (.bl d)) h else Res.ok (Va.pv (.bl false)) h) = Res.ok (.pv (.bl (c && d))) h := by cases c <;> rfl
section
variable {a b c d e : Va}
abbrev l3 (a b c : Va) : List (Key × Va) := [(.inr ("down" : Str), a), (.inr ("up" : Str), b), (.inr ("upper" : Str), c)]
abbrev l5 (a b c d e : Va) : List (Key × Va) := [(.inr ("down" : Str), a), (.inr ("up" : Str), b), (.inr ("upper" : Str), c), (.inr ("lower" : Str), d), (.inr ("even" : Str), e)]
theorem mg3 : mergeV [] (l3 a b c) = l3 a b c := by rfl
theorem pt4 : putV (l3 a b c) (.inr ("lower" : Str)) d = [(.inr ("down" : Str), a), (.inr ("up" : Str), b), (.inr ("upper" : Str), c), (.inr ("lower" : Str), d)] := by rfl
theorem pt5 : putV [(.inr ("down" : Str), a), (.inr ("up" : Str), b), (.inr ("upper" : Str), c), (.inr ("lower" : Str), d)] (.inr ("even" : Str)) e = l5 a b c d e := by rfl
theorem i1 : oIdx (.ref 0) (.pv (.str ("down" : Str))) [.dct (l5 a b c d e)] = .ok a [.dct (l5 a b c d e)] := idx_dct rfl rfl rfl
theorem i2 : oIdx (.ref 0) (.pv (.str ("up" : Str))) [.dct (l5 a b c d e)] = .ok b [.dct (l5 a b c d e)] := idx_dct rfl rfl rfl
theorem i3 : oIdx (.ref 0) (.pv (.str ("upper" : Str))) [.dct (l5 a b c d e)] = .ok c [.dct (l5 a b c d e)] := idx_dct rfl rfl rfl
theorem i4 : oIdx (.ref 0) (.pv (.str ("lower" : Str))) [.dct (l5 a b c d e)] = .ok d [.dct (l5 a b c d e)] := idx_dct rfl rfl rfl
theorem i5 : oIdx (.ref 0) (.pv (.str ("even" : Str))) [.dct (l5 a b c d e)] = .ok e [.dct (l5 a b c d e)] := idx_dct rfl rfl rfl
end
theorem p_lr {t u p : Int} {w : Str} (hf : Fit t u) (hp : 0 < p) (hp2 : p < 13) (hw : w ∈ five) : pcall F_q_left_right [rat t u, .int p, .str w] = .ok (.bl true) := by
  obtain ⟨u0, u1, t1, g⟩ := hf
  have S0 : 0 < u * p := Int.mul_pos u0 hp
  have Sz : (u * p).natAbs < 2 ^ (50 + 4) := mul_bnd u1 (by omega)
  have r1 := p_rounded (t := t) (u := u) (c := p) (r := w) (by omega) (big Sz (by decide)) (by omega)
  have r2 := p_left (t := t) (u := u) (c := p) (r := w) (by omega) (big u1 (by decide)) (by omega)
  have gs := gcd_shift (k := -(p * mc t (u * p) w)) g
  rw [low_self u0 gs] at r2
  obtain ⟨A, hA⟩ : ∃ A, A = t + -(p * mc t (u * p) w) * u := ⟨_, rfl⟩
  rw [← hA] at r2
  have hA2 : A = t - mc t (u * p) w * (u * p) := by rw [hA]; grind
  obtain ⟨L1, L2, L3, L4, L5, L6, L7⟩ := lies S0 hA2
  have hl := p_lowest (t := A + p * mc t (u * p) w * u) (u := u) (by omega) (big u1 (by decide))
  have hlow : pcall F_lowest [.int (A + p * mc t (u * p) w * u), .int u] = .ok (low (A + p * mc t (u * p) w * u) u) := hl
  clear hl
  have e3 : A + p * mc t (u * p) w * u = t := by rw [hA]; grind
  rw [e3, low_self u0 g] at hlow
  have r3 := p_rounded (t := A) (u := u) (c := p) (r := w) (by omega) (big Sz (by decide)) (by omega)
  have z3 : mc A (u * p) w = 0 := by
    have sh := mc_shift (t := t) (k := -mc t (u * p) w) (w := w) S0 (fun a b => by have := L7 a b; omega)
    have : t + -mc t (u * p) w * (u * p) = A := by rw [hA2]; grind
    rw [this] at sh
    omega
  rw [z3, Int.mul_zero] at r3
  have r4 := p_rounded (t := p * mc t (u * p) w) (u := 1) (c := p) (r := w) (by omega) (by omega) (by omega)
  have z4 : mc (p * mc t (u * p) w) (1 * p) w = mc t (u * p) w := by
    have z := mc_at (t := p * mc t (u * p) w) (S := p) (q := mc t (u * p) w) (r := 0) (w := w) hp (by omega) (by omega) hp
    rw [if_pos (.inl rfl)] at z
    rw [Int.one_mul]
    exact z
  rw [z4] at r4
  obtain ⟨m, hm⟩ : ∃ m, m = mc t (u * p) w := ⟨_, rfl⟩
  rw [← hm] at r1 r4 L6 e3
  have m1 : ∀ x, mulOk p x = true := fun x => mulOk_l (by omega)
  have m2 : ∀ x, mulOk x u = true := fun x => mulOk_r (big u1 (by decide))
  have m3 : ∀ x, mulOk 2 x = true := fun x => mulOk_l (by decide)
  have m4 : ∀ x, mulOk (-1) x = true := fun x => mulOk_l (by decide)
  have m5 : ∀ x, mulOk (-2) x = true := fun x => mulOk_l (by decide)
  have d1 : divOk p = true := divOk_of (by omega) (by
    have : p.natAbs < 2 ^ 4 := by omega
    exact big this (by decide))
  have f1 : (p * m).fmod p = 0 := by rw [Int.mul_fmod_right]
  have f2 : (p * m).fdiv p = m := Int.mul_fdiv_cancel_left _ (by omega)
  have pz : p ≠ 0 := by omega
  have cm : u * p = p * u := Int.mul_comm ..
  rw [cm] at L1 L2 L3 L4 L5 L6
  obtain ⟨q1, hq1⟩ : ∃ q, q = (decide (0 ≤ 2 * A) && decide (2 * A < 2 * (p * u))) := ⟨_, rfl⟩
  obtain ⟨q2, hq2⟩ : ∃ q, q = (decide (-2 * (p * u) < 2 * A) && decide (2 * A ≤ 0)) := ⟨_, rfl⟩
  obtain ⟨q3, hq3⟩ : ∃ q, q = (decide (-1 * (p * u) ≤ 2 * A) && decide (2 * A < p * u)) := ⟨_, rfl⟩
  obtain ⟨q4, hq4⟩ : ∃ q, q = (decide (-1 * (p * u) < 2 * A) && decide (2 * A ≤ p * u)) := ⟨_, rfl⟩
  obtain ⟨q5, hq5⟩ : ∃ q, q = (decide (-1 * (p * u) ≤ 2 * A) && decide (2 * A ≤ p * u)) := ⟨_, rfl⟩
  have k1 : ∀ (s : Sl) (h : Hh), s[6]? = some (some (I (2 * A))) → s[7]? = some (some (I (p * u))) → dChn oLe oLt (dC (.int 0)) (dVar 6) (dBin oMul (dC (.int 2)) (dVar 7)) s h = .ok (.pv (.bl q1)) h := fun s h h6 h7 => by
    rw [hq1]; simp only [ev_dChn, ev_C, ev_var, ev_bin, h6, h7, ev_bind_ok, ev_mul, m3, if_true, ev_le, ev_lt, ev_asB, ite_ok]
  have k2 : ∀ (s : Sl) (h : Hh), s[6]? = some (some (I (2 * A))) → s[7]? = some (some (I (p * u))) → dChn oLt oLe (dBin oMul (dNeg (dC (.int 2))) (dVar 7)) (dVar 6) (dC (.int 0)) s h = .ok (.pv (.bl q2)) h := fun s h h6 h7 => by
    rw [hq2]; simp only [ev_dChn, ev_C, ev_var, ev_bin, ev_dNeg, h6, h7, ev_bind_ok, ev_mul, m5, if_true, ev_le, ev_lt, ev_asB, ite_ok]
  have k3 : ∀ (s : Sl) (h : Hh), s[6]? = some (some (I (2 * A))) → s[7]? = some (some (I (p * u))) → dChn oLe oLt (dBin oMul (dNeg (dC (.int 1))) (dVar 7)) (dVar 6) (dVar 7) s h = .ok (.pv (.bl q3)) h := fun s h h6 h7 => by
    rw [hq3]; simp only [ev_dChn, ev_C, ev_var, ev_bin, ev_dNeg, h6, h7, ev_bind_ok, ev_mul, m4, if_true, ev_le, ev_lt, ev_asB, ite_ok]
  have k4 : ∀ (s : Sl) (h : Hh), s[6]? = some (some (I (2 * A))) → s[7]? = some (some (I (p * u))) → dChn oLt oLe (dBin oMul (dNeg (dC (.int 1))) (dVar 7)) (dVar 6) (dVar 7) s h = .ok (.pv (.bl q4)) h := fun s h h6 h7 => by
    rw [hq4]; simp only [ev_dChn, ev_C, ev_var, ev_bin, ev_dNeg, h6, h7, ev_bind_ok, ev_mul, m4, if_true, ev_le, ev_lt, ev_asB, ite_ok]
  have k5 : ∀ (s : Sl) (h : Hh), s[6]? = some (some (I (2 * A))) → s[7]? = some (some (I (p * u))) → dChn oLe oLe (dBin oMul (dNeg (dC (.int 1))) (dVar 7)) (dVar 6) (dVar 7) s h = .ok (.pv (.bl q5)) h := fun s h h6 h7 => by
    rw [hq5]; simp only [ev_dChn, ev_C, ev_var, ev_bin, ev_dNeg, h6, h7, ev_bind_ok, ev_mul, m4, if_true, ev_le, ev_lt, ev_asB, ite_ok]
  refine pcall_of (h' := [.dct [(.inr ("down" : Str), .pv (.bl q1)), (.inr ("up" : Str), .pv (.bl q2)), (.inr ("upper" : Str), .pv (.bl q3)), (.inr ("lower" : Str), .pv (.bl q4)), (.inr ("even" : Str), .pv (.bl q5))]]) ?_
  unfold F_q_left_right fnOfB b_q_left_right startS
  rcases in_five hw with rfl | rfl | rfl | rfl | rfl
  · have y : q1 = true := by rw [hq1]; have := L1 rfl; simp only [Bool.and_eq_true, decide_eq_true_eq]; exact this
    simp [-ev_dChn, ev_callP, r1, r2, r3, r4, hlow, m1, m2, m3, m4, m5, k1, k2, k3, k4, k5, mg3, pt4, pt5, oSetI, dctOf, oSetD, i1, ev_eqR, e3, f1, pz, w13, y]
  · have y : q2 = true := by rw [hq2]; have := L2 rfl; simp only [Bool.and_eq_true, decide_eq_true_eq]; exact this
    simp [-ev_dChn, ev_callP, r1, r2, r3, r4, hlow, m1, m2, m3, m4, m5, k1, k2, k3, k4, k5, mg3, pt4, pt5, oSetI, dctOf, oSetD, i2, ev_eqR, e3, f1, pz, w15, y]
  · have y : q3 = true := by rw [hq3]; have := L3 rfl; simp only [Bool.and_eq_true, decide_eq_true_eq]; exact this
    simp [-ev_dChn, ev_callP, r1, r2, r3, r4, hlow, m1, m2, m3, m4, m5, k1, k2, k3, k4, k5, mg3, pt4, pt5, oSetI, dctOf, oSetD, i3, ev_eqR, e3, f1, pz, w8, y]
  · have y : q4 = true := by rw [hq4]; have := L4 rfl; simp only [Bool.and_eq_true, decide_eq_true_eq]; exact this
    simp [-ev_dChn, ev_callP, r1, r2, r3, r4, hlow, m1, m2, m3, m4, m5, k1, k2, k3, k4, k5, mg3, pt4, pt5, oSetI, dctOf, oSetD, i4, ev_eqR, e3, f1, pz, w9, y]
  · have y : q5 = true := by rw [hq5]; have := L5 rfl; simp only [Bool.and_eq_true, decide_eq_true_eq]; exact this
    by_cases tie : ((2 * A).natAbs : Int) = p * u
    · have ev := L6 rfl tie
      have ev2 : m.fmod 2 = 0 := by rw [fm2]; exact ev
      simp [-ev_dChn, ev_callP, r1, r2, r3, r4, hlow, m1, m2, m3, m4, m5, k1, k2, k3, k4, k5, mg3, pt4, pt5, oSetI, dctOf, oSetD, i5, ev_eqR, e3, f1, f2, d1, pz, y, tie, ev2]
    · simp [-ev_dChn, ev_callP, r1, r2, r3, r4, hlow, m1, m2, m3, m4, m5, k1, k2, k3, k4, k5, mg3, pt4, pt5, oSetI, dctOf, oSetD, i5, ev_eqR, e3, f1, f2, d1, pz, y, tie]
end K02
set_option exponentiation.threshold 10000
namespace K02
open PySem PySem.Spec PyProof.Rows L2 CI R
theorem low_fit {t u : Int} (h : 0 < u) (hu : u.natAbs < 2 ^ 50) (ht : t.natAbs < 2 ^ 200) : ∃ T U, pcall F_lowest [.int t, .int u] = .ok (rat T U) ∧ Fit T U := by
  obtain ⟨P, T, U, hP, e1, e2, e3, e4, e5, hU, hg⟩ := low_is (t := t) (u := u) (by omega)
  have hl := p_lowest (t := t) (u := u) (by omega) (big hu (by decide))
  rw [e3, e4, e5] at hl
  have aT : T.natAbs ≤ t.natAbs := by
    have := congrArg Int.natAbs e1
    rw [Int.natAbs_mul] at this
    rw [this]
    exact Nat.le_mul_of_pos_left _ (by omega)
  have aU : U.natAbs ≤ u.natAbs := by
    have := congrArg Int.natAbs e2
    rw [Int.natAbs_mul] at this
    rw [this]
    exact Nat.le_mul_of_pos_left _ (by omega)
  exact ⟨T, U, hl, hU, by omega, by omega, hg⟩
theorem ratio_ev {h : Hh} {r : Nat} {p : Int} (B : BagAt h r) (p0 : 0 < p) (p1 : p < 13) : ∃ t u h', F_q_ratio [.ref r, I p] h = .ok (.pv (rat t u)) h' ∧ BagAt h' r ∧ Fit t u := by
  obtain ⟨a, h1, e1, B1, _, a0, a1⟩ := take_ev B (n := 30) (by decide) (by decide)
  obtain ⟨b, h2, e2, B2, _, b0, b1⟩ := take_ev B1 (n := 500) (by decide) (by decide)
  obtain ⟨c, h3, e3, B3, _, c0, c1⟩ := wide_ev B2 (n := 100000000000000000000000000000000000000) (by decide) (by decide)
  obtain ⟨d, h4, e4, B4, _, d0, d1⟩ := take_ev B3 (n := 4) (by decide) (by decide)
  have df : 0 ≤ d.fdiv 3 ∧ d.fdiv 3 < 2 := by
    rw [Int.fdiv_eq_ediv_of_nonneg _ (by decide)]; omega
  obtain ⟨x, hx, e5⟩ := any_at (L := [.int b, .int c]) (h := h4) df.1 df.2
  have hi : ∃ i : Int, x = .int i ∧ i.natAbs < 2 ^ 180 := by
    simp only [List.mem_cons, List.mem_nil_iff, or_false] at hx
    rcases hx with rfl | rfl
    · exact ⟨_, rfl, by omega⟩
    · exact ⟨_, rfl, by omega⟩
  obtain ⟨i, rfl, hi⟩ := hi
  obtain ⟨f, h5, e6, B5, _, f0, f1⟩ := take_ev B4 (n := 3) (by decide) (by decide)
  have k5 : powOk 10 38 = true := by decide
  have k6 : divOk 3 = true := by decide
  have m2 : ∀ x, mulOk p x = true := fun x => mulOk_l (by omega)
  have sg : ∀ (v : Int) (h : Hh), 0 ≤ v → v < 2 → ∃ s : Int, oIdx (.pv (.lst [.int 1, .int (-1)])) (I v) h = .ok (I s) h ∧ s.natAbs = 1 := fun v h v0 v1 => by
    have : v = 0 ∨ v = 1 := by omega
    rcases this with rfl | rfl
    · exact ⟨1, by simp, rfl⟩
    · exact ⟨-1, by simp, rfl⟩
  unfold F_q_ratio fnOfB b_q_ratio startS
  by_cases z : f = 0
  · obtain ⟨g, h6, e7, B6, _, g0, g1⟩ := take_ev B5 (n := 30) (by decide) (by decide)
    obtain ⟨k, h7, e8, B7, _, v0, v1⟩ := take_ev B6 (n := 2) (by decide) (by decide)
    obtain ⟨s, e9, hs⟩ := sg k h7 v0 v1
    have m1 : ∀ x, mulOk s x = true := fun x => mulOk_l (by omega)
    have hb : (s * (p * g)).natAbs < 2 ^ 200 := by
      rw [Int.natAbs_mul, hs, Nat.one_mul]
      have : (p * g).natAbs < 2 ^ (4 + 5) := mul_bnd (by omega) (by omega)
      omega
    obtain ⟨T, U, e10, ft⟩ := low_fit (t := s * (p * g)) (u := 2) (by decide) (by decide) hb
    refine ⟨T, U, h7, ?_, B7, ft⟩
    simp [ev_call, ev_callP, e1, e2, e3, e4, e5, e6, e7, e8, e9, e10, k5, k6, z, m1, m2]
  · obtain ⟨k, h7, e8, B7, _, v0, v1⟩ := take_ev B5 (n := 2) (by decide) (by decide)
    obtain ⟨s, e9, hs⟩ := sg k h7 v0 v1
    have m1 : ∀ x, mulOk s x = true := fun x => mulOk_l (by omega)
    have hb : (s * i).natAbs < 2 ^ 200 := by
      rw [Int.natAbs_mul, hs, Nat.one_mul]; omega
    obtain ⟨T, U, e10, ft⟩ := low_fit (t := s * i) (u := 1 + a) (by omega) (by omega) hb
    refine ⟨T, U, h7, ?_, B7, ft⟩
    simp [ev_call, ev_callP, e1, e2, e3, e4, e5, e6, e8, e9, e10, k5, k6, z, m1, m2]
noncomputable abbrev wordT : Sn := (sSeq (sIf (tOr (tNot (tVal (dCall K02.F_q_moved 4 0 (K02.a_q_moved 4 []) (daCons (dVar 2) (daCons (dVar 6) (daCons (dVar 4) (daCons (dVar 5) daNil)))) daNil))) (tNot (tVal (dCallP K02.F_q_rises 4 0 (K02.a_q_rises 4 []) (daCons (dVar 6) (daCons (dVar 7) (daCons (dVar 4) (daCons (dVar 5) daNil)))) daNil)))) (sRet (dC (.bl false))) sNil)
    (sIf (tNot (tVal (dCallP K02.F_q_left_right 3 0 (K02.a_q_left_right 3 []) (daCons (dVar 6) (daCons (dVar 4) (daCons (dVar 5) daNil))) daNil))) (sRet (dC (.bl false))) sNil))
noncomputable abbrev turn : Sn := (sSeq (sAsg (gNm 4) (dBin oAdd (dC (.int 1)) (dCall R.F_q_take 2 0 (R.a_q_take 2 []) (daCons (dVar 2) (daCons (dC (.int 12)) daNil)) daNil)))
    (sSeq (sPar [6, 7] (daCons (dCall K02.F_q_ratio 2 0 (K02.a_q_ratio 2 []) (daCons (dVar 2) (daCons (dVar 4) daNil)) daNil) (daCons (dCall K02.F_q_ratio 2 0 (K02.a_q_ratio 2 []) (daCons (dVar 2) (daCons (dVar 4) daNil)) daNil) daNil)))
    (sFor (iSeq (dTup (daCons (dC (.str ("down" : Str))) (daCons (dC (.str ("up" : Str))) (daCons (dC (.str ("upper" : Str))) (daCons (dC (.str ("lower" : Str))) (daCons (dC (.str ("even" : Str))) daNil))))))) (gNm 5) wordT)))
theorem inner {sc : Va} {r : Nat} {s : Sl} {h : Hh} (hz : ∃ x1 x3 x4 x5 x6 x7, s = [some sc, x1, some (.ref r), x3, x4, x5, x6, x7]) (B : BagAt h r) :
    ∃ s2 h2, turn s h = .nx s2 h2 ∧ (∃ x1 x3 x4 x5 x6 x7, s2 = [some sc, x1, some (.ref r), x3, x4, x5, x6, x7]) ∧ BagAt h2 r := by
  obtain ⟨x1, x3, x4, x5, x6, x7, rfl⟩ := hz
  obtain ⟨v, h1, e1, B1, _, v0, v1⟩ := take_ev B (n := 12) (by decide) (by decide)
  obtain ⟨t, u, h2, e2, B2, f1⟩ := ratio_ev B1 (p := 1 + v) (by omega) (by omega)
  obtain ⟨t', u', h3, e3, B3, f2⟩ := ratio_ev B2 (p := 1 + v) (by omega) (by omega)
  obtain ⟨s2, h4, e4, ⟨y5, e5⟩, B4⟩ := forL_inv (t := gNm 5) (b := wordT) (fun s h' => (∃ y5, s = [some sc, x1, some (.ref r), x3, some (I (1 + v)), y5, some (.pv (rat t u)), some (.pv (rat t' u'))]) ∧ BagAt h' r)
    [.pv (.str ("down" : Str)), .pv (.str ("up" : Str)), .pv (.str ("upper" : Str)), .pv (.str ("lower" : Str)), .pv (.str ("even" : Str))] [some sc, x1, some (.ref r), x3, some (I (1 + v)), x5, some (.pv (rat t u)), some (.pv (rat t' u'))] h3 ⟨⟨_, rfl⟩, B3⟩ (by
      rintro x hx s h ⟨⟨y5, rfl⟩, B⟩
      have : ∃ w ∈ five, x = .pv (.str w) := by
        simp only [List.mem_cons, List.mem_nil_iff, or_false] at hx
        rcases hx with rfl | rfl | rfl | rfl | rfl <;> exact ⟨_, by simp [five], rfl⟩
      obtain ⟨w, hw, rfl⟩ := this
      obtain ⟨h', e, B'⟩ := moved_ev B f1 (p := 1 + v) (by omega) (by omega) hw
      have r1 := p_rises (w := w) f1 f2 (p := 1 + v) (by omega) (by omega)
      have r2 := p_lr f1 (p := 1 + v) (by omega) (by omega) hw
      refine ⟨_, rfl, [some sc, x1, some (.ref r), x3, some (I (1 + v)), some (.pv (.str w)), some (.pv (rat t u)), some (.pv (rat t' u'))], h', .inl ?_, ⟨_, rfl⟩, B'⟩
      simp [ev_call, ev_callP, e, r1, r2])
  refine ⟨s2, h4, ?_, ⟨_, _, _, _, _, _, e5⟩, B4⟩
  unfold turn
  simp [-ev_forL_cons, ev_call, ev_callP, e1, e2, e3, e4]
theorem law_says : LawSays F_the_law 63 := by
  intro ns hns
  have hM : ∃ M : Nat, M ≤ 8 ∧ (max 2 (min 4 (ns.length : Int))).toNat = M := ⟨_, by omega, rfl⟩
  obtain ⟨M, hM8, hM⟩ := hM
  have main : ∃ s' h', forL (gNm 1) (sSeq (sAsg (gNm 2) (dCall R.F_q_bag 2 0 (R.a_q_bag 2 []) (daCons (dVar 0) (daCons (dVar 1) daNil)) daNil))
    (sFor (iRng1 (daCons (dC (.int 16)) daNil)) (gNm 3) turn)) (rangeVa 0 M) [some (.pv (.scr ns)), none, none, none, none, none, none, none] [] = .nx s' h' ∧ ∃ x1 x2 x3 x4 x5 x6 x7, s' = [some (.pv (.scr ns)), x1, x2, x3, x4, x5, x6, x7] := by
    refine forL_inv (fun s _ => ∃ x1 x2 x3 x4 x5 x6 x7, s = [some (.pv (.scr ns)), x1, x2, x3, x4, x5, x6, x7]) _ _ _ ⟨_, _, _, _, _, _, _, rfl⟩ ?_
    rintro x hx s h ⟨x1, x2, x3, x4, x5, x6, x7, rfl⟩
    obtain ⟨k, hk, rfl⟩ := mem_rng hx
    obtain ⟨h1, e1, B1, _⟩ := bag_ev (ns := ns) (k := k) (h := h) (by omega)
    refine ⟨_, rfl, ?_⟩
    obtain ⟨s2, h2, e2, ⟨⟨y1, y3, y4, y5, y6, y7, e3⟩, _⟩⟩ := forL_inv (t := gNm 3) (b := turn)
      (fun s h' => (∃ x1 x3 x4 x5 x6 x7, s = [some (.pv (.scr ns)), x1, some (.ref h.length), x3, x4, x5, x6, x7]) ∧ BagAt h' h.length) (rangeVa 0 16) [some (.pv (.scr ns)), some (I k), some (.ref h.length), x3, x4, x5, x6, x7] h1 ⟨⟨_, _, _, _, _, _, rfl⟩, B1⟩ (by
        rintro y hy s h ⟨⟨z1, z3, z4, z5, z6, z7, rfl⟩, B⟩
        refine ⟨_, rfl, ?_⟩
        obtain ⟨s2, h2, e, z, b⟩ := inner (s := [some (.pv (.scr ns)), z1, some (.ref _), z3, z4, z5, z6, z7].set 3 (some y)) (sc := .pv (.scr ns)) ⟨_, _, _, _, _, _, rfl⟩ B
        exact ⟨s2, h2, .inl e, z, b⟩)
    refine ⟨s2, h2, .inl ?_, y1, _, y3, y4, y5, y6, y7, e3⟩
    simp [ev_call, e1, e2]
  obtain ⟨s', h', e, x1, x2, x3, x4, x5, x6, x7, rfl⟩ := main
  refine ⟨h', ?_⟩
  unfold F_the_law fnOfB b_the_law startS
  simp [hM, e]
end K02
namespace HK02
open PySem PySem.Spec PyProof.Rows L2 CI
def top (i : Nat) : Stmt := PySem.Challenge.pw_roundledger_k02_whole_rounded_ratios.main.body.getD i (.Pass ⟨0, 0, 0, 0⟩)
abbrev FnP (K : PySem.W.Frag) (x : Str) (st : Stmt) (kws : List (Str × V)) (f : Addr) (fd : FuncData) : Prop := FunD K x x (defArgs st) (defBody st) (defScope st) [] kws f fd
abbrev st_common : Stmt := top 1
noncomputable def i_common : FnI := ⟨("common" : Str), R.ps_common, [], true, R.F_common, [(2, [])]⟩
noncomputable def ct_common : Ct := ⟨R.n_common, defScope st_common, none, [], [], [], false, []⟩
theorem ev_common : evBody ct_common (defBody st_common) = some R.b_common := by kernel_rfl
theorem sc_common : FnScope R.n_common R.ps_common (defScope st_common) := ⟨rfl, rfl, rfl, by decide +kernel, rfl, by decide +kernel, by decide +kernel⟩
theorem ca_common0 {K : PySem.W.Frag} {mg : Str → Option Value} {f : Addr} {fd : FuncData} (F : FnP K ("common" : Str) st_common [] f fd) : CallOk ⟨K, mg⟩ fd i_common.ps 2 [] (asmF i_common 2 []) :=
  callOk0 F rfl rfl fun _ _ _ _ _ _ us ws h1 h2 => match us, ws, h1, h2 with | [_, _], [], _, _ => rfl
abbrev st_lowest : Stmt := top 2
noncomputable def i_lowest : FnI := ⟨("lowest" : Str), R.ps_lowest, [], true, R.F_lowest, [(2, [])]⟩
noncomputable def ct_lowest : Ct := ⟨R.n_lowest, defScope st_lowest, none, [i_common], [], [("abs" : Str)], false, []⟩
theorem ev_lowest : evBody ct_lowest (defBody st_lowest) = some R.b_lowest := by kernel_rfl
theorem sc_lowest : FnScope R.n_lowest R.ps_lowest (defScope st_lowest) := ⟨rfl, rfl, rfl, by decide +kernel, rfl, by decide +kernel, by decide +kernel⟩
theorem ca_lowest0 {K : PySem.W.Frag} {mg : Str → Option Value} {f : Addr} {fd : FuncData} (F : FnP K ("lowest" : Str) st_lowest [] f fd) : CallOk ⟨K, mg⟩ fd i_lowest.ps 2 [] (asmF i_lowest 2 []) :=
  callOk0 F rfl rfl fun _ _ _ _ _ _ us ws h1 h2 => match us, ws, h1, h2 with | [_, _], [], _, _ => rfl
abbrev st_plus : Stmt := top 3
noncomputable def i_plus : FnI := ⟨("plus" : Str), R.ps_plus, [], true, R.F_plus, [(2, [])]⟩
noncomputable def ct_plus : Ct := ⟨R.n_plus, defScope st_plus, none, [i_lowest], [], [], false, []⟩
theorem ev_plus : evBody ct_plus (defBody st_plus) = some R.b_plus := by kernel_rfl
theorem sc_plus : FnScope R.n_plus R.ps_plus (defScope st_plus) := ⟨rfl, rfl, rfl, by decide +kernel, rfl, by decide +kernel, by decide +kernel⟩
theorem ca_plus0 {K : PySem.W.Frag} {mg : Str → Option Value} {f : Addr} {fd : FuncData} (F : FnP K ("plus" : Str) st_plus [] f fd) : CallOk ⟨K, mg⟩ fd i_plus.ps 2 [] (asmF i_plus 2 []) :=
  callOk0 F rfl rfl fun _ _ _ _ _ _ us ws h1 h2 => match us, ws, h1, h2 with | [_, _], [], _, _ => rfl
abbrev st_minus : Stmt := top 4
noncomputable def i_minus : FnI := ⟨("minus" : Str), R.ps_minus, [], true, R.F_minus, [(2, [])]⟩
noncomputable def ct_minus : Ct := ⟨R.n_minus, defScope st_minus, none, [i_plus], [], [], false, []⟩
theorem ev_minus : evBody ct_minus (defBody st_minus) = some R.b_minus := by kernel_rfl
theorem sc_minus : FnScope R.n_minus R.ps_minus (defScope st_minus) := ⟨rfl, rfl, rfl, by decide +kernel, rfl, by decide +kernel, by decide +kernel⟩
theorem ca_minus0 {K : PySem.W.Frag} {mg : Str → Option Value} {f : Addr} {fd : FuncData} (F : FnP K ("minus" : Str) st_minus [] f fd) : CallOk ⟨K, mg⟩ fd i_minus.ps 2 [] (asmF i_minus 2 []) :=
  callOk0 F rfl rfl fun _ _ _ _ _ _ us ws h1 h2 => match us, ws, h1, h2 with | [_, _], [], _, _ => rfl
abbrev st_many_coins : Stmt := top 5
noncomputable def i_many_coins : FnI := ⟨("many_coins" : Str), R.ps_many_coins, [], true, R.F_many_coins, [(4, [])]⟩
noncomputable def ct_many_coins : Ct := ⟨R.n_many_coins, defScope st_many_coins, none, [], [], [("divmod" : Str), ("int" : Str)], false, []⟩
theorem ev_many_coins : evBody ct_many_coins (defBody st_many_coins) = some R.b_many_coins := by kernel_rfl
theorem sc_many_coins : FnScope R.n_many_coins R.ps_many_coins (defScope st_many_coins) := ⟨rfl, rfl, rfl, by decide +kernel, rfl, by decide +kernel, by decide +kernel⟩
theorem ca_many_coins0 {K : PySem.W.Frag} {mg : Str → Option Value} {f : Addr} {fd : FuncData} (F : FnP K ("many_coins" : Str) st_many_coins [] f fd) : CallOk ⟨K, mg⟩ fd i_many_coins.ps 4 [] (asmF i_many_coins 4 []) :=
  callOk0 F rfl rfl fun _ _ _ _ _ _ us ws h1 h2 => match us, ws, h1, h2 with | [_, _, _, _], [], _, _ => rfl
abbrev st_rounded : Stmt := top 6
noncomputable def i_rounded : FnI := ⟨("rounded" : Str), R.ps_rounded, [(("coin" : Str), (.int 1)), (("rule" : Str), (.str ("down" : Str)))], true, R.F_rounded, [(1, [("coin" : Str), ("rule" : Str)])]⟩
noncomputable def ct_rounded : Ct := ⟨R.n_rounded, defScope st_rounded, none, [i_many_coins], [], [], false, []⟩
theorem ev_rounded : evBody ct_rounded (defBody st_rounded) = some R.b_rounded := by kernel_rfl
theorem sc_rounded : FnScope R.n_rounded R.ps_rounded (defScope st_rounded) := ⟨rfl, rfl, rfl, by decide +kernel, rfl, by decide +kernel, by decide +kernel⟩
theorem ca_rounded0 {K : PySem.W.Frag} {mg : Str → Option Value} {f : Addr} {fd : FuncData} (F : FnP K ("rounded" : Str) st_rounded [(("coin" : Str), V.int 1), (("rule" : Str), V.str ("down" : Str))] f fd) : CallOk ⟨K, mg⟩ fd i_rounded.ps 1 [("coin" : Str), ("rule" : Str)] (asmF i_rounded 1 [("coin" : Str), ("rule" : Str)]) :=
  callOk0 F rfl rfl fun _ _ _ _ _ _ us ws h1 h2 => match us, ws, h1, h2 with | [_], [_, _], _, _ => rfl
abbrev st_left : Stmt := top 7
noncomputable def i_left : FnI := ⟨("left" : Str), R.ps_left, [(("coin" : Str), (.int 1)), (("rule" : Str), (.str ("down" : Str)))], true, R.F_left, [(1, [("coin" : Str), ("rule" : Str)])]⟩
noncomputable def ct_left : Ct := ⟨R.n_left, defScope st_left, none, [i_minus, i_rounded], [], [], false, []⟩
theorem ev_left : evBody ct_left (defBody st_left) = some R.b_left := by kernel_rfl
theorem sc_left : FnScope R.n_left R.ps_left (defScope st_left) := ⟨rfl, rfl, rfl, by decide +kernel, rfl, by decide +kernel, by decide +kernel⟩
theorem ca_left0 {K : PySem.W.Frag} {mg : Str → Option Value} {f : Addr} {fd : FuncData} (F : FnP K ("left" : Str) st_left [(("coin" : Str), V.int 1), (("rule" : Str), V.str ("down" : Str))] f fd) : CallOk ⟨K, mg⟩ fd i_left.ps 1 [("coin" : Str), ("rule" : Str)] (asmF i_left 1 [("coin" : Str), ("rule" : Str)]) :=
  callOk0 F rfl rfl fun _ _ _ _ _ _ us ws h1 h2 => match us, ws, h1, h2 with | [_], [_, _], _, _ => rfl
abbrev st_q_bag : Stmt := top 9
noncomputable def i_q_bag : FnI := ⟨("_law_bag" : Str), R.ps_q_bag, [], false, R.F_q_bag, [(2, [])]⟩
noncomputable def ct_q_bag : Ct := ⟨R.n_q_bag, defScope st_q_bag, none, [], [], [("abs" : Str), ("int" : Str), ("len" : Str)], true, []⟩
theorem ev_q_bag : evBody ct_q_bag (defBody st_q_bag) = some R.b_q_bag := by kernel_rfl
theorem sc_q_bag : FnScope R.n_q_bag R.ps_q_bag (defScope st_q_bag) := ⟨rfl, rfl, rfl, by decide +kernel, rfl, by decide +kernel, by decide +kernel⟩
theorem ca_q_bag0 {K : PySem.W.Frag} {mg : Str → Option Value} {f : Addr} {fd : FuncData} (F : FnP K ("_law_bag" : Str) st_q_bag [] f fd) : CallOk ⟨K, mg⟩ fd i_q_bag.ps 2 [] (asmF i_q_bag 2 []) :=
  callOk0 F rfl rfl fun _ _ _ _ _ _ us ws h1 h2 => match us, ws, h1, h2 with | [_, _], [], _, _ => rfl
abbrev st_q_take : Stmt := top 10
noncomputable def i_q_take : FnI := ⟨("_law_take" : Str), R.ps_q_take, [], false, R.F_q_take, [(2, [])]⟩
noncomputable def ct_q_take : Ct := ⟨R.n_q_take, defScope st_q_take, none, [], [], [], false, []⟩
theorem ev_q_take : evBody ct_q_take (defBody st_q_take) = some R.b_q_take := by kernel_rfl
theorem sc_q_take : FnScope R.n_q_take R.ps_q_take (defScope st_q_take) := ⟨rfl, rfl, rfl, by decide +kernel, rfl, by decide +kernel, by decide +kernel⟩
theorem ca_q_take0 {K : PySem.W.Frag} {mg : Str → Option Value} {f : Addr} {fd : FuncData} (F : FnP K ("_law_take" : Str) st_q_take [] f fd) : CallOk ⟨K, mg⟩ fd i_q_take.ps 2 [] (asmF i_q_take 2 []) :=
  callOk0 F rfl rfl fun _ _ _ _ _ _ us ws h1 h2 => match us, ws, h1, h2 with | [_, _], [], _, _ => rfl
abbrev st_q_wide : Stmt := top 11
noncomputable def i_q_wide : FnI := ⟨("_law_wide" : Str), R.ps_q_wide, [], false, R.F_q_wide, [(2, [])]⟩
noncomputable def ct_q_wide : Ct := ⟨R.n_q_wide, defScope st_q_wide, none, [i_q_take], [], [("range" : Str)], false, []⟩
theorem ev_q_wide : evBody ct_q_wide (defBody st_q_wide) = some R.b_q_wide := by kernel_rfl
theorem sc_q_wide : FnScope R.n_q_wide R.ps_q_wide (defScope st_q_wide) := ⟨rfl, rfl, rfl, by decide +kernel, rfl, by decide +kernel, by decide +kernel⟩
theorem ca_q_wide0 {K : PySem.W.Frag} {mg : Str → Option Value} {f : Addr} {fd : FuncData} (F : FnP K ("_law_wide" : Str) st_q_wide [] f fd) : CallOk ⟨K, mg⟩ fd i_q_wide.ps 2 [] (asmF i_q_wide 2 []) :=
  callOk0 F rfl rfl fun _ _ _ _ _ _ us ws h1 h2 => match us, ws, h1, h2 with | [_, _], [], _, _ => rfl
abbrev st_q_ratio : Stmt := top 12
noncomputable def i_q_ratio : FnI := ⟨("_law_ratio" : Str), K02.ps_q_ratio, [], false, K02.F_q_ratio, [(2, [])]⟩
noncomputable def ct_q_ratio : Ct := ⟨K02.n_q_ratio, defScope st_q_ratio, none, [i_lowest, i_q_take, i_q_wide], [], [], false, []⟩
theorem ev_q_ratio : evBody ct_q_ratio (defBody st_q_ratio) = some K02.b_q_ratio := by kernel_rfl
theorem sc_q_ratio : FnScope K02.n_q_ratio K02.ps_q_ratio (defScope st_q_ratio) := ⟨rfl, rfl, rfl, by decide +kernel, rfl, by decide +kernel, by decide +kernel⟩
theorem ca_q_ratio0 {K : PySem.W.Frag} {mg : Str → Option Value} {f : Addr} {fd : FuncData} (F : FnP K ("_law_ratio" : Str) st_q_ratio [] f fd) : CallOk ⟨K, mg⟩ fd i_q_ratio.ps 2 [] (asmF i_q_ratio 2 []) :=
  callOk0 F rfl rfl fun _ _ _ _ _ _ us ws h1 h2 => match us, ws, h1, h2 with | [_, _], [], _, _ => rfl
abbrev st_q_moved : Stmt := top 13
noncomputable def i_q_moved : FnI := ⟨("_law_moved" : Str), K02.ps_q_moved, [], false, K02.F_q_moved, [(4, [])]⟩
noncomputable def ct_q_moved : Ct := ⟨K02.n_q_moved, defScope st_q_moved, none, [i_rounded, i_lowest, i_q_take], [], [], false, []⟩
theorem ev_q_moved : evBody ct_q_moved (defBody st_q_moved) = some K02.b_q_moved := by kernel_rfl
theorem sc_q_moved : FnScope K02.n_q_moved K02.ps_q_moved (defScope st_q_moved) := ⟨rfl, rfl, rfl, by decide +kernel, rfl, by decide +kernel, by decide +kernel⟩
theorem ca_q_moved0 {K : PySem.W.Frag} {mg : Str → Option Value} {f : Addr} {fd : FuncData} (F : FnP K ("_law_moved" : Str) st_q_moved [] f fd) : CallOk ⟨K, mg⟩ fd i_q_moved.ps 4 [] (asmF i_q_moved 4 []) :=
  callOk0 F rfl rfl fun _ _ _ _ _ _ us ws h1 h2 => match us, ws, h1, h2 with | [_, _, _, _], [], _, _ => rfl
abbrev st_q_left_right : Stmt := top 14
noncomputable def i_q_left_right : FnI := ⟨("_law_left_right" : Str), K02.ps_q_left_right, [], true, K02.F_q_left_right, [(3, [])]⟩
noncomputable def ct_q_left_right : Ct := ⟨K02.n_q_left_right, defScope st_q_left_right, none, [i_rounded, i_lowest, i_left], [], [("abs" : Str)], false, []⟩
theorem ev_q_left_right : evBody ct_q_left_right (defBody st_q_left_right) = some K02.b_q_left_right := by kernel_rfl
theorem sc_q_left_right : FnScope K02.n_q_left_right K02.ps_q_left_right (defScope st_q_left_right) := ⟨rfl, rfl, rfl, by decide +kernel, rfl, by decide +kernel, by decide +kernel⟩
theorem ca_q_left_right0 {K : PySem.W.Frag} {mg : Str → Option Value} {f : Addr} {fd : FuncData} (F : FnP K ("_law_left_right" : Str) st_q_left_right [] f fd) : CallOk ⟨K, mg⟩ fd i_q_left_right.ps 3 [] (asmF i_q_left_right 3 []) :=
  callOk0 F rfl rfl fun _ _ _ _ _ _ us ws h1 h2 => match us, ws, h1, h2 with | [_, _, _], [], _, _ => rfl
abbrev st_q_rises : Stmt := top 15
noncomputable def i_q_rises : FnI := ⟨("_law_rises" : Str), K02.ps_q_rises, [], true, K02.F_q_rises, [(4, [])]⟩
noncomputable def ct_q_rises : Ct := ⟨K02.n_q_rises, defScope st_q_rises, none, [i_rounded], [], [], false, []⟩
theorem ev_q_rises : evBody ct_q_rises (defBody st_q_rises) = some K02.b_q_rises := by kernel_rfl
theorem sc_q_rises : FnScope K02.n_q_rises K02.ps_q_rises (defScope st_q_rises) := ⟨rfl, rfl, rfl, by decide +kernel, rfl, by decide +kernel, by decide +kernel⟩
theorem ca_q_rises0 {K : PySem.W.Frag} {mg : Str → Option Value} {f : Addr} {fd : FuncData} (F : FnP K ("_law_rises" : Str) st_q_rises [] f fd) : CallOk ⟨K, mg⟩ fd i_q_rises.ps 4 [] (asmF i_q_rises 4 []) :=
  callOk0 F rfl rfl fun _ _ _ _ _ _ us ws h1 h2 => match us, ws, h1, h2 with | [_, _, _, _], [], _, _ => rfl
abbrev st_the_law : Stmt := top 16
noncomputable def i_the_law : FnI := ⟨("law" : Str), K02.ps_the_law, [], false, K02.F_the_law, []⟩
noncomputable def ct_the_law : Ct := ⟨K02.n_the_law, defScope st_the_law, none, [i_q_left_right, i_q_rises, i_q_moved, i_q_ratio, i_q_take, i_q_bag], [], [("len" : Str), ("max" : Str), ("min" : Str), ("range" : Str)], false, []⟩
theorem ev_the_law : evBody ct_the_law (defBody st_the_law) = some K02.b_the_law := by kernel_rfl
theorem sc_the_law : FnScope K02.n_the_law K02.ps_the_law (defScope st_the_law) := ⟨rfl, rfl, rfl, by decide +kernel, rfl, by decide +kernel, by decide +kernel⟩
structure Fns (P : Program) (w : World) (K : PySem.W.Frag) (mg : Str → Option Value) : Prop where
  d_common : ∃ f fd, mg ("common" : Str) = some (.ref f) ∧ FnP K ("common" : Str) st_common [] f fd
  d_lowest : ∃ f fd, mg ("lowest" : Str) = some (.ref f) ∧ FnP K ("lowest" : Str) st_lowest [] f fd
  d_plus : ∃ f fd, mg ("plus" : Str) = some (.ref f) ∧ FnP K ("plus" : Str) st_plus [] f fd
  d_minus : ∃ f fd, mg ("minus" : Str) = some (.ref f) ∧ FnP K ("minus" : Str) st_minus [] f fd
  d_many_coins : ∃ f fd, mg ("many_coins" : Str) = some (.ref f) ∧ FnP K ("many_coins" : Str) st_many_coins [] f fd
  d_rounded : ∃ f fd, mg ("rounded" : Str) = some (.ref f) ∧ FnP K ("rounded" : Str) st_rounded [(("coin" : Str), V.int 1), (("rule" : Str), V.str ("down" : Str))] f fd
  d_left : ∃ f fd, mg ("left" : Str) = some (.ref f) ∧ FnP K ("left" : Str) st_left [(("coin" : Str), V.int 1), (("rule" : Str), V.str ("down" : Str))] f fd
  d_q_bag : ∃ f fd, mg ("_law_bag" : Str) = some (.ref f) ∧ FnP K ("_law_bag" : Str) st_q_bag [] f fd
  d_q_take : ∃ f fd, mg ("_law_take" : Str) = some (.ref f) ∧ FnP K ("_law_take" : Str) st_q_take [] f fd
  d_q_wide : ∃ f fd, mg ("_law_wide" : Str) = some (.ref f) ∧ FnP K ("_law_wide" : Str) st_q_wide [] f fd
  d_q_ratio : ∃ f fd, mg ("_law_ratio" : Str) = some (.ref f) ∧ FnP K ("_law_ratio" : Str) st_q_ratio [] f fd
  d_q_moved : ∃ f fd, mg ("_law_moved" : Str) = some (.ref f) ∧ FnP K ("_law_moved" : Str) st_q_moved [] f fd
  d_q_left_right : ∃ f fd, mg ("_law_left_right" : Str) = some (.ref f) ∧ FnP K ("_law_left_right" : Str) st_q_left_right [] f fd
  d_q_rises : ∃ f fd, mg ("_law_rises" : Str) = some (.ref f) ∧ FnP K ("_law_rises" : Str) st_q_rises [] f fd
  d_the_law : ∃ f fd, mg ("law" : Str) = some (.ref f) ∧ FnP K ("law" : Str) st_the_law [] f fd
  g_abs : mg ("abs" : Str) = none
  g_divmod : mg ("divmod" : Str) = none
  g_int : mg ("int" : Str) = none
  g_len : mg ("len" : Str) = none
  g_max : mg ("max" : Str) = none
  g_min : mg ("min" : Str) = none
  g_range : mg ("range" : Str) = none
section
variable {P : Program} {w : World} {K : PySem.W.Frag} {mg : Str → Option Value} {base : Heap}
theorem ok_common (Z : Fns P w K mg) : DefsG P w K mg base 1 i_common := by
  obtain ⟨f, fd, hm, F⟩ := Z.d_common
  exact def_ok (ct := ct_common) F sc_common rfl rfl ev_common rfl hm (allC (ca_common0 F) allN) allN allN allN
theorem ok_lowest (Z : Fns P w K mg) : DefsG P w K mg base 2 i_lowest := by
  obtain ⟨f, fd, hm, F⟩ := Z.d_lowest
  exact def_ok (ct := ct_lowest) F sc_lowest rfl rfl ev_lowest rfl hm (allC (ca_lowest0 F) allN) (allC ((ok_common Z).mono (by decide)) allN) allN (allC Z.g_abs allN)
theorem ok_plus (Z : Fns P w K mg) : DefsG P w K mg base 3 i_plus := by
  obtain ⟨f, fd, hm, F⟩ := Z.d_plus
  exact def_ok (ct := ct_plus) F sc_plus rfl rfl ev_plus rfl hm (allC (ca_plus0 F) allN) (allC ((ok_lowest Z).mono (by decide)) allN) allN allN
theorem ok_minus (Z : Fns P w K mg) : DefsG P w K mg base 4 i_minus := by
  obtain ⟨f, fd, hm, F⟩ := Z.d_minus
  exact def_ok (ct := ct_minus) F sc_minus rfl rfl ev_minus rfl hm (allC (ca_minus0 F) allN) (allC ((ok_plus Z).mono (by decide)) allN) allN allN
theorem ok_many_coins (Z : Fns P w K mg) : DefsG P w K mg base 1 i_many_coins := by
  obtain ⟨f, fd, hm, F⟩ := Z.d_many_coins
  exact def_ok (ct := ct_many_coins) F sc_many_coins rfl rfl ev_many_coins rfl hm (allC (ca_many_coins0 F) allN) allN allN (allC Z.g_divmod (allC Z.g_int allN))
theorem ok_rounded (Z : Fns P w K mg) : DefsG P w K mg base 2 i_rounded := by
  obtain ⟨f, fd, hm, F⟩ := Z.d_rounded
  exact def_ok (ct := ct_rounded) F sc_rounded rfl rfl ev_rounded rfl hm (allC (ca_rounded0 F) allN) (allC ((ok_many_coins Z).mono (by decide)) allN) allN allN
theorem ok_left (Z : Fns P w K mg) : DefsG P w K mg base 5 i_left := by
  obtain ⟨f, fd, hm, F⟩ := Z.d_left
  exact def_ok (ct := ct_left) F sc_left rfl rfl ev_left rfl hm (allC (ca_left0 F) allN) (allC ((ok_minus Z).mono (by decide)) (allC ((ok_rounded Z).mono (by decide)) allN)) allN allN
theorem ok_q_bag (Z : Fns P w K mg) : DefsG P w K mg base 1 i_q_bag := by
  obtain ⟨f, fd, hm, F⟩ := Z.d_q_bag
  exact def_ok (ct := ct_q_bag) F sc_q_bag rfl rfl ev_q_bag rfl hm (allC (ca_q_bag0 F) allN) allN allN (allC Z.g_abs (allC Z.g_int (allC Z.g_len allN)))
theorem ok_q_take (Z : Fns P w K mg) : DefsG P w K mg base 1 i_q_take := by
  obtain ⟨f, fd, hm, F⟩ := Z.d_q_take
  exact def_ok (ct := ct_q_take) F sc_q_take rfl rfl ev_q_take rfl hm (allC (ca_q_take0 F) allN) allN allN allN
theorem ok_q_wide (Z : Fns P w K mg) : DefsG P w K mg base 2 i_q_wide := by
  obtain ⟨f, fd, hm, F⟩ := Z.d_q_wide
  exact def_ok (ct := ct_q_wide) F sc_q_wide rfl rfl ev_q_wide rfl hm (allC (ca_q_wide0 F) allN) (allC ((ok_q_take Z).mono (by decide)) allN) allN (allC Z.g_range allN)
theorem ok_q_ratio (Z : Fns P w K mg) : DefsG P w K mg base 3 i_q_ratio := by
  obtain ⟨f, fd, hm, F⟩ := Z.d_q_ratio
  exact def_ok (ct := ct_q_ratio) F sc_q_ratio rfl rfl ev_q_ratio rfl hm (allC (ca_q_ratio0 F) allN) (allC ((ok_lowest Z).mono (by decide)) (allC ((ok_q_take Z).mono (by decide)) (allC ((ok_q_wide Z).mono (by decide)) allN))) allN allN
theorem ok_q_moved (Z : Fns P w K mg) : DefsG P w K mg base 3 i_q_moved := by
  obtain ⟨f, fd, hm, F⟩ := Z.d_q_moved
  exact def_ok (ct := ct_q_moved) F sc_q_moved rfl rfl ev_q_moved rfl hm (allC (ca_q_moved0 F) allN) (allC ((ok_rounded Z).mono (by decide)) (allC ((ok_lowest Z).mono (by decide)) (allC ((ok_q_take Z).mono (by decide)) allN))) allN allN
theorem ok_q_left_right (Z : Fns P w K mg) : DefsG P w K mg base 6 i_q_left_right := by
  obtain ⟨f, fd, hm, F⟩ := Z.d_q_left_right
  exact def_ok (ct := ct_q_left_right) F sc_q_left_right rfl rfl ev_q_left_right rfl hm (allC (ca_q_left_right0 F) allN) (allC ((ok_rounded Z).mono (by decide)) (allC ((ok_lowest Z).mono (by decide)) (allC ((ok_left Z).mono (by decide)) allN))) allN (allC Z.g_abs allN)
theorem ok_q_rises (Z : Fns P w K mg) : DefsG P w K mg base 3 i_q_rises := by
  obtain ⟨f, fd, hm, F⟩ := Z.d_q_rises
  exact def_ok (ct := ct_q_rises) F sc_q_rises rfl rfl ev_q_rises rfl hm (allC (ca_q_rises0 F) allN) (allC ((ok_rounded Z).mono (by decide)) allN) allN allN
theorem ok_law (Z : Fns P w K mg) {f : Addr} {fd : FuncData} (F : FnP K "law" st_the_law [] f fd) : FnG P w K mg base 7 f fd K02.ps_the_law (spF ⟨K, mg⟩ 1 K02.F_the_law) := by
  exact fn_ok (ct := ct_the_law) (ps := K02.ps_the_law) F sc_the_law rfl rfl ev_the_law (allC ((ok_q_left_right Z).mono (by decide)) (allC ((ok_q_rises Z).mono (by decide)) (allC ((ok_q_moved Z).mono (by decide)) (allC ((ok_q_ratio Z).mono (by decide)) (allC ((ok_q_take Z).mono (by decide)) (allC ((ok_q_bag Z).mono (by decide)) allN)))))) allN (allC Z.g_len (allC Z.g_max (allC Z.g_min (allC Z.g_range allN))))
end
def dd_common : He.DefD := ⟨(("common" : Str), none), ("common" : Str), ("common" : Str), defArgs st_common, defBody st_common, defScope st_common, [], []⟩
def dd_lowest : He.DefD := ⟨(("lowest" : Str), none), ("lowest" : Str), ("lowest" : Str), defArgs st_lowest, defBody st_lowest, defScope st_lowest, [], []⟩
def dd_plus : He.DefD := ⟨(("plus" : Str), none), ("plus" : Str), ("plus" : Str), defArgs st_plus, defBody st_plus, defScope st_plus, [], []⟩
def dd_minus : He.DefD := ⟨(("minus" : Str), none), ("minus" : Str), ("minus" : Str), defArgs st_minus, defBody st_minus, defScope st_minus, [], []⟩
def dd_many_coins : He.DefD := ⟨(("many_coins" : Str), none), ("many_coins" : Str), ("many_coins" : Str), defArgs st_many_coins, defBody st_many_coins, defScope st_many_coins, [], []⟩
def dd_rounded : He.DefD := ⟨(("rounded" : Str), none), ("rounded" : Str), ("rounded" : Str), defArgs st_rounded, defBody st_rounded, defScope st_rounded, [], [(("coin" : Str), .int 1), (("rule" : Str), .str ("down" : Str))]⟩
def dd_left : He.DefD := ⟨(("left" : Str), none), ("left" : Str), ("left" : Str), defArgs st_left, defBody st_left, defScope st_left, [], [(("coin" : Str), .int 1), (("rule" : Str), .str ("down" : Str))]⟩
def dd_q_bag : He.DefD := ⟨(("_law_bag" : Str), none), ("_law_bag" : Str), ("_law_bag" : Str), defArgs st_q_bag, defBody st_q_bag, defScope st_q_bag, [], []⟩
def dd_q_take : He.DefD := ⟨(("_law_take" : Str), none), ("_law_take" : Str), ("_law_take" : Str), defArgs st_q_take, defBody st_q_take, defScope st_q_take, [], []⟩
def dd_q_wide : He.DefD := ⟨(("_law_wide" : Str), none), ("_law_wide" : Str), ("_law_wide" : Str), defArgs st_q_wide, defBody st_q_wide, defScope st_q_wide, [], []⟩
def dd_q_ratio : He.DefD := ⟨(("_law_ratio" : Str), none), ("_law_ratio" : Str), ("_law_ratio" : Str), defArgs st_q_ratio, defBody st_q_ratio, defScope st_q_ratio, [], []⟩
def dd_q_moved : He.DefD := ⟨(("_law_moved" : Str), none), ("_law_moved" : Str), ("_law_moved" : Str), defArgs st_q_moved, defBody st_q_moved, defScope st_q_moved, [], []⟩
def dd_q_left_right : He.DefD := ⟨(("_law_left_right" : Str), none), ("_law_left_right" : Str), ("_law_left_right" : Str), defArgs st_q_left_right, defBody st_q_left_right, defScope st_q_left_right, [], []⟩
def dd_q_rises : He.DefD := ⟨(("_law_rises" : Str), none), ("_law_rises" : Str), ("_law_rises" : Str), defArgs st_q_rises, defBody st_q_rises, defScope st_q_rises, [], []⟩
def dd_the_law : He.DefD := ⟨(("law" : Str), none), ("law" : Str), ("law" : Str), defArgs st_the_law, defBody st_the_law, defScope st_the_law, [], []⟩
def fn : List He.DefD := [dd_common, dd_lowest, dd_plus, dd_minus, dd_many_coins, dd_rounded, dd_left, dd_q_bag, dd_q_take, dd_q_wide, dd_q_ratio, dd_q_moved, dd_q_left_right, dd_q_rises, dd_the_law]
def fa : List He.Fa := [.glo ("common" : Str), .glo ("lowest" : Str), .glo ("plus" : Str), .glo ("minus" : Str), .glo ("many_coins" : Str), .glo ("rounded" : Str), .glo ("left" : Str), .glo ("_law_bag" : Str), .glo ("_law_take" : Str), .glo ("_law_wide" : Str), .glo ("_law_ratio" : Str), .glo ("_law_moved" : Str), .glo ("_law_left_right" : Str), .glo ("_law_rises" : Str), .glo ("law" : Str), .free ("abs" : Str), .free ("divmod" : Str), .free ("int" : Str), .free ("len" : Str), .free ("max" : Str), .free ("min" : Str), .free ("range" : Str)]
abbrev R : PySem.W.OpenRow := PySem.W.OpenLaw.row PySem.Challenge.rw_roundledger_k02_whole_rounded_ratios
abbrev hk : PySem.W.Hook := He.hookD 4 fa fn
def ob (s : PySem.W.SharedT) : He.AlD := He.obsDG 4 fa fn (HandSHeadRun.getT s)
theorem ob_eq (s : PySem.W.SharedT) : ob s = hk.obs s.abs := He.obsDG_eq (HandSHeadRun.getT_eq s)
theorem run (w : World) : HandSHeadRun.RunEq R (PySem.W.view R.prog [16]) hk ob 2000 [("common" : Str), ("lowest" : Str), ("plus" : Str), ("minus" : Str), ("many_coins" : Str), ("rounded" : Str), ("left" : Str), ("_law_bag" : Str), ("_law_take" : Str), ("_law_wide" : Str), ("_law_ratio" : Str), ("_law_moved" : Str), ("_law_left_right" : Str), ("_law_rises" : Str)] w := by
  intro os
  kernel_rfl
theorem facts {P : Program} {w : World} {K : PySem.W.Frag} {h : Heap} {mg : Str → Option Value} {f : Addr} (X : K.In h) (G : h.Ns mainGlobals mg) (hfa : mg ("law" : Str) = some (.ref f)) (c : He.SaysD fa fn K) :
    ∃ fd : FuncData, (∀ (s : Shared) (v : Value), BindsTo s fd ⟨[v], []⟩ [(("_law_script" : Str), v)]) ∧ ∀ base : Heap, K.In base → base.Ns mainGlobals mg → FnG P w K mg base 7 f fd K02.ps_the_law (spF ⟨K, mg⟩ 1 K02.F_the_law) := by
  obtain ⟨fd_common, F_common⟩ := c.def_ 0 (d := dd_common) rfl
  have m_common := He.glo_ok X G (c.fact 0 (f := .glo ("common" : Str)) rfl)
  obtain ⟨fd_lowest, F_lowest⟩ := c.def_ 1 (d := dd_lowest) rfl
  have m_lowest := He.glo_ok X G (c.fact 1 (f := .glo ("lowest" : Str)) rfl)
  obtain ⟨fd_plus, F_plus⟩ := c.def_ 2 (d := dd_plus) rfl
  have m_plus := He.glo_ok X G (c.fact 2 (f := .glo ("plus" : Str)) rfl)
  obtain ⟨fd_minus, F_minus⟩ := c.def_ 3 (d := dd_minus) rfl
  have m_minus := He.glo_ok X G (c.fact 3 (f := .glo ("minus" : Str)) rfl)
  obtain ⟨fd_many_coins, F_many_coins⟩ := c.def_ 4 (d := dd_many_coins) rfl
  have m_many_coins := He.glo_ok X G (c.fact 4 (f := .glo ("many_coins" : Str)) rfl)
  obtain ⟨fd_rounded, F_rounded⟩ := c.def_ 5 (d := dd_rounded) rfl
  have m_rounded := He.glo_ok X G (c.fact 5 (f := .glo ("rounded" : Str)) rfl)
  obtain ⟨fd_left, F_left⟩ := c.def_ 6 (d := dd_left) rfl
  have m_left := He.glo_ok X G (c.fact 6 (f := .glo ("left" : Str)) rfl)
  obtain ⟨fd_q_bag, F_q_bag⟩ := c.def_ 7 (d := dd_q_bag) rfl
  have m_q_bag := He.glo_ok X G (c.fact 7 (f := .glo ("_law_bag" : Str)) rfl)
  obtain ⟨fd_q_take, F_q_take⟩ := c.def_ 8 (d := dd_q_take) rfl
  have m_q_take := He.glo_ok X G (c.fact 8 (f := .glo ("_law_take" : Str)) rfl)
  obtain ⟨fd_q_wide, F_q_wide⟩ := c.def_ 9 (d := dd_q_wide) rfl
  have m_q_wide := He.glo_ok X G (c.fact 9 (f := .glo ("_law_wide" : Str)) rfl)
  obtain ⟨fd_q_ratio, F_q_ratio⟩ := c.def_ 10 (d := dd_q_ratio) rfl
  have m_q_ratio := He.glo_ok X G (c.fact 10 (f := .glo ("_law_ratio" : Str)) rfl)
  obtain ⟨fd_q_moved, F_q_moved⟩ := c.def_ 11 (d := dd_q_moved) rfl
  have m_q_moved := He.glo_ok X G (c.fact 11 (f := .glo ("_law_moved" : Str)) rfl)
  obtain ⟨fd_q_left_right, F_q_left_right⟩ := c.def_ 12 (d := dd_q_left_right) rfl
  have m_q_left_right := He.glo_ok X G (c.fact 12 (f := .glo ("_law_left_right" : Str)) rfl)
  obtain ⟨fd_q_rises, F_q_rises⟩ := c.def_ 13 (d := dd_q_rises) rfl
  have m_q_rises := He.glo_ok X G (c.fact 13 (f := .glo ("_law_rises" : Str)) rfl)
  obtain ⟨fd_the_law, F_the_law⟩ := c.def_ 14 (d := dd_the_law) rfl
  have m_the_law := He.glo_ok X G (c.fact 14 (f := .glo ("law" : Str)) rfl)
  have e := hfa.symm.trans m_the_law
  cases e
  have b := FunD.bindsA (ps := K02.ps_the_law) F_the_law fun _ _ _ _ _ _ us hl => match us, hl with | [_], _ => rfl
  have Z : Fns P w K mg := ⟨⟨_, _, m_common, F_common⟩, ⟨_, _, m_lowest, F_lowest⟩, ⟨_, _, m_plus, F_plus⟩, ⟨_, _, m_minus, F_minus⟩, ⟨_, _, m_many_coins, F_many_coins⟩, ⟨_, _, m_rounded, F_rounded⟩, ⟨_, _, m_left, F_left⟩, ⟨_, _, m_q_bag, F_q_bag⟩, ⟨_, _, m_q_take, F_q_take⟩, ⟨_, _, m_q_wide, F_q_wide⟩, ⟨_, _, m_q_ratio, F_q_ratio⟩, ⟨_, _, m_q_moved, F_q_moved⟩, ⟨_, _, m_q_left_right, F_q_left_right⟩, ⟨_, _, m_q_rises, F_q_rises⟩, ⟨_, _, m_the_law, F_the_law⟩, He.free_ok X G (c.fact 15 (f := .free ("abs" : Str)) rfl), He.free_ok X G (c.fact 16 (f := .free ("divmod" : Str)) rfl), He.free_ok X G (c.fact 17 (f := .free ("int" : Str)) rfl), He.free_ok X G (c.fact 18 (f := .free ("len" : Str)) rfl), He.free_ok X G (c.fact 19 (f := .free ("max" : Str)) rfl), He.free_ok X G (c.fact 20 (f := .free ("min" : Str)) rfl), He.free_ok X G (c.fact 21 (f := .free ("range" : Str)) rfl)⟩
  exact ⟨fd_the_law, fun s v => b s [v] rfl, fun base _ _ => ok_law Z F_the_law⟩
end HK02
open PySem PySem.W PySem.Calls PyProof.Rows
theorem PySem.Challenge.cw_roundledger_k02_whole_rounded_ratios_holds : PySem.Challenge.rw_roundledger_k02_whole_rounded_ratios.Holds := by
  w_on; o_law
  refine HandSHeadRun.head_any (r := OpenLaw.row PySem.Challenge.rw_roundledger_k02_whole_rounded_ratios) (q := view (OpenLaw.row PySem.Challenge.rw_roundledger_k02_whole_rounded_ratios).prog [16]) (H := HK02.hk) (ob := HK02.ob) (M := 2000) (loose := [("common" : Str), ("lowest" : Str), ("plus" : Str), ("minus" : Str), ("many_coins" : Str), ("rounded" : Str), ("left" : Str), ("_law_bag" : Str), ("_law_take" : Str), ("_law_wide" : Str), ("_law_ratio" : Str), ("_law_moved" : Str), ("_law_left_right" : Str), ("_law_rises" : Str)]) (d := HandSHeadRun.topDef (OpenLaw.row PySem.Challenge.rw_roundledger_k02_whole_rounded_ratios).prog 16) (kwd := []) HK02.ob_eq
    (by kernel_rfl) (fun s => by kernel_rfl) HK02.run (by kernel_rfl) (by kernel_rfl) (by kernel_rfl) (by rfl) (by first | assumption | decide +kernel) (by decide +kernel) ⟨rfl, rfl, rfl, rfl, rfl, by decide +kernel⟩ ?hw ?hc
  case hw => w_witness2
  case hc =>
    refine CI.walkG (l := PySem.Challenge.rw_roundledger_k02_whole_rounded_ratios) (n := 63) (k := 7) (y := ("_law_script" : Str)) (Fl := K02.F_the_law) rfl (by decide) (by kernel_rfl) ⟨rfl, by decide, by decide⟩ ?F K02.law_says
    intro w mg fa h Y G hmg0
    obtain ⟨K, KX, c⟩ := Y
    have hmg : mg ("law" : PySem.Str) = some (.ref fa) := by
      have e : (HandSHeadRun.topDef (OpenLaw.row PySem.Challenge.rw_roundledger_k02_whole_rounded_ratios).prog 16).name = ("law" : PySem.Str) := by kernel_rfl
      rw [← e]
      exact hmg0
    obtain ⟨fd, hb, hF⟩ := HK02.facts (P := (PySem.Challenge.rw_roundledger_k02_whole_rounded_ratios).prog) (w := w) KX G hmg c
    exact ⟨K, fd, KX, hb, hF⟩
