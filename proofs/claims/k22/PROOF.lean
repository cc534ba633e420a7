import PyProof.Rows.All
import HandS.ForMost
import HandS.Exc
import HandS.Defaults
import HandS.ExcOwn
import HandS.CallSlots
import HandS.TupAny
import HandS.TupMul
import PyProof.EqKinds
import HandS.IsInst
import HandS.More
import HandS.Style
import PyProof.ListStr
import HandS.Words
import HandS.Codes
import HandS.Ends
import HandS.HeadEnd
import HandS.HeadHook1
import HandS.HeadHook2
import HandS.HeadHook3
import HandS.HeadHook4
import PySem.Challenge.RW_beadlane_k22_patterns_judged
import KE.KStateDown
import Lean
import HandS.WordsExc
import HandS.Head0
import HandS.Head1
import HandS.Head2
section part_BLa
set_option Elab.async false
set_option linter.all false
set_option maxRecDepth 100000
set_option maxHeartbeats 4000000
set_option autoImplicit false
/-! BLa: trees, cells, states; how they lie in the abstract heap. -/
namespace BL
open PySem PySem.Spec PyProof.Rows L2

/-- a value as a tree -/
inductive D where
  | non | bl (b : Bool) | int (i : Int) | str (x : List Nat)
  | tup (xs : List D) | lst (xs : List D) | dic (kvs : List (D × D)) | ins (c : Str) (fs : List (Str × D)) | kls (xs : List D)
/-- a tree; a reference to a cell of the store; a reference to the thing that slot i holds -/
inductive AV where
  | t (d : D) | b (n : Nat) | s (i : Nat)
/-- what may change -/
inductive Cell where
  | lst (xs : List D) | lsa (xs : List AV) | dic (kvs : List (D × D)) | dia (kvs : List (D × AV)) | ins (c : Str) (fs : List (Str × AV))
/-- a slot: a value; a thing that this slot alone holds; such a thing while it is walked -/
inductive SV where
  | av (a : AV) | own (c : Cell) | lock (c : Cell)
structure M where
  σ : List (Option SV)
  S : List Cell
  base : Nat

structure Com where
  prog : Program
  w : World
  K : PySem.W.Frag
  mg : Str → Option Value
  base : Heap

abbrev mkS (x : List Nat) : Str := ⟨x.toArray⟩
/-- a key of a dict -/
def keyD : D → Option Key
  | .int i => some (.inl i)
  | .str x => some (.inr (mkS x))
  | _ => none

/-- a list of the module -/
def KLst (K : PySem.W.Frag) (a : Addr) (vs : List V) : Prop := ∃ (o : Obj) (its : Array Value) (n : Nat), K.lookup a = some o ∧ o.cls = .type "list" ∧ o.dict = none ∧ o.data = .seq its n ∧ its.size ≤ sizeLine ∧ Vals vs its.toList
mutual
def Den (C : Com) (H : Hp) : D → V → Prop
  | .non, v => v = .non
  | .bl b, v => v = .bl b
  | .int i, v => v = .int i
  | .str x, v => v = .str (mkS x)
  | .tup xs, v => ∃ a vs, v = .ref a ∧ H a = some (.tup vs) ∧ Dens C H xs vs
  | .lst xs, v => ∃ a o vs, v = .ref a ∧ H a = some (.frz o (.lst vs)) ∧ Dens C H xs vs
  | .dic kvs, v => ∃ a o kv, v = .ref a ∧ H a = some (.frz o (.dK kv)) ∧ DenK C H kvs kv
  | .kls xs, v => ∃ a vs, v = .ref a ∧ ((∃ o, H a = some (.frz o (.lst vs))) ∨ KLst C.K a vs) ∧ Dens C H xs vs
  | .ins c fs, v => ∃ a o ca dx fv, v = .ref a ∧ C.mg c = some (.ref ca) ∧ H a = some (.frz o (.ins ca dx fv)) ∧ DenF C H fs fv
def Dens (C : Com) (H : Hp) : List D → List V → Prop
  | [], vs => vs = []
  | d :: ds, vs => ∃ v r, vs = v :: r ∧ Den C H d v ∧ Dens C H ds r
def DenK (C : Com) (H : Hp) : List (D × D) → List (Key × V) → Prop
  | [], vs => vs = []
  | (k, d) :: ds, vs => ∃ q v r, vs = (q, v) :: r ∧ keyD k = some q ∧ Den C H d v ∧ DenK C H ds r
def DenF (C : Com) (H : Hp) : List (Str × D) → List (Str × V) → Prop
  | [], vs => vs = []
  | (k, d) :: ds, vs => ∃ v r, vs = (k, v) :: r ∧ Den C H d v ∧ DenF C H ds r
end

/-- what never changes stays -/
structure Mono (H H' : Hp) : Prop where
  tup : ∀ b xs, H b = some (.tup xs) → H' b = some (.tup xs)
  frz : ∀ b o u, H b = some (.frz o u) → H' b = some (.frz o u)
theorem Mono.refl {H : Hp} : Mono H H := ⟨fun _ _ h => h, fun _ _ _ h => h⟩
theorem Mono.trans {H H' H'' : Hp} (a : Mono H H') (b : Mono H' H'') : Mono H H'' := ⟨fun c xs h => b.tup c xs (a.tup c xs h), fun c o u h => b.frz c o u (a.frz c o u h)⟩
theorem Mono.new {H : Hp} {p : Addr} {o : HO} (h : H p = none) : Mono H (upd H p o) :=
  ⟨fun b xs q => by rw [upd_ne (ne_of_none q h)]; exact q, fun b o u q => by rw [upd_ne (ne_of_none q h)]; exact q⟩
/-- a thing that may change -/
def Chg : HO → Prop
  | .tup _ => False
  | .frz _ _ => False
  | _ => True
theorem Mono.put {H : Hp} {p : Addr} {o u : HO} (h : H p = some o) (c : Chg o) : Mono H (upd H p u) := by
  refine ⟨fun b xs q => ?_, fun b o' u' q => ?_⟩
  · rw [upd_ne]
    · exact q
    · rintro rfl
      rw [h] at q
      cases q
      exact c
  · rw [upd_ne]
    · exact q
    · rintro rfl
      rw [h] at q
      cases q
      exact c

section
variable {C : Com} {H H' : Hp}
mutual
theorem Den.mono (m : Mono H H') : ∀ (d : D) (v : V), Den C H d v → Den C H' d v
  | .non, _, h => h
  | .bl _, _, h => h
  | .int _, _, h => h
  | .str _, _, h => h
  | .tup xs, v, h => by
    obtain ⟨a, vs, e, h1, h2⟩ := h
    exact ⟨a, vs, e, m.tup _ _ h1, Dens.mono m xs vs h2⟩
  | .lst xs, v, h => by
    obtain ⟨a, o, vs, e, h1, h2⟩ := h
    exact ⟨a, o, vs, e, m.frz _ _ _ h1, Dens.mono m xs vs h2⟩
  | .dic kvs, v, h => by
    obtain ⟨a, o, kv, e, h1, h2⟩ := h
    exact ⟨a, o, kv, e, m.frz _ _ _ h1, DenK.mono m kvs kv h2⟩
  | .kls xs, v, h => by
    obtain ⟨a, vs, e, h1, h2⟩ := h
    refine ⟨a, vs, e, ?_, Dens.mono m xs vs h2⟩
    rcases h1 with ⟨o, h1⟩ | h1
    · exact .inl ⟨o, m.frz _ _ _ h1⟩
    · exact .inr h1
  | .ins c fs, v, h => by
    obtain ⟨a, o, ca, dx, fv, e, h0, h1, h2⟩ := h
    exact ⟨a, o, ca, dx, fv, e, h0, m.frz _ _ _ h1, DenF.mono m fs fv h2⟩
theorem Dens.mono (m : Mono H H') : ∀ (ds : List D) (vs : List V), Dens C H ds vs → Dens C H' ds vs
  | [], _, h => h
  | d :: ds, vs, h => by
    obtain ⟨v, r, e, h1, h2⟩ := h
    exact ⟨v, r, e, Den.mono m d v h1, Dens.mono m ds r h2⟩
theorem DenK.mono (m : Mono H H') : ∀ (ds : List (D × D)) (vs : List (Key × V)), DenK C H ds vs → DenK C H' ds vs
  | [], _, h => h
  | (k, d) :: ds, vs, h => by
    obtain ⟨q, v, r, e, h0, h1, h2⟩ := h
    exact ⟨q, v, r, e, h0, Den.mono m d v h1, DenK.mono m ds r h2⟩
theorem DenF.mono (m : Mono H H') : ∀ (ds : List (Str × D)) (vs : List (Str × V)), DenF C H ds vs → DenF C H' ds vs
  | [], _, h => h
  | (k, d) :: ds, vs, h => by
    obtain ⟨v, r, e, h1, h2⟩ := h
    exact ⟨v, r, e, Den.mono m d v h1, DenF.mono m ds r h2⟩
end

theorem Dens.length : ∀ {ds : List D} {vs : List V}, Dens C H ds vs → vs.length = ds.length
  | [], _, h => by rw [show _ = [] from h]; rfl
  | d :: ds, vs, h => by
    obtain ⟨v, r, rfl, _, h2⟩ := h
    simp [Dens.length h2]
theorem Dens.get : ∀ {ds : List D} {vs : List V} {i : Nat} {d : D}, Dens C H ds vs → ds[i]? = some d → ∃ v, vs[i]? = some v ∧ Den C H d v
  | [], _, _, _, _, e => by simp at e
  | d :: ds, vs, 0, x, h, e => by
    obtain ⟨v, r, rfl, h1, _⟩ := h
    simp at e; subst e
    exact ⟨v, rfl, h1⟩
  | d :: ds, vs, i + 1, x, h, e => by
    obtain ⟨v, r, rfl, _, h2⟩ := h
    obtain ⟨u, e1, h1⟩ := Dens.get (i := i) (d := x) h2 (by simpa using e)
    exact ⟨u, by simpa using e1, h1⟩
theorem Dens.get' : ∀ {ds : List D} {vs : List V} {i : Nat} {v : V}, Dens C H ds vs → vs[i]? = some v → ∃ d, ds[i]? = some d ∧ Den C H d v
  | [], _, i, _, h, e => by rw [show _ = [] from h] at e; simp at e
  | d :: ds, vs, 0, x, h, e => by
    obtain ⟨v, r, rfl, h1, _⟩ := h
    simp at e; subst e
    exact ⟨d, rfl, h1⟩
  | d :: ds, vs, i + 1, x, h, e => by
    obtain ⟨v, r, rfl, _, h2⟩ := h
    obtain ⟨u, e1, h1⟩ := Dens.get' (i := i) (v := x) h2 (by simpa using e)
    exact ⟨u, by simpa using e1, h1⟩
theorem Dens.append : ∀ {ds es : List D} {vs ws : List V}, Dens C H ds vs → Dens C H es ws → Dens C H (ds ++ es) (vs ++ ws)
  | [], _, _, _, h, k => by rw [show _ = [] from h]; exact k
  | d :: ds, es, vs, ws, h, k => by
    obtain ⟨v, r, rfl, h1, h2⟩ := h
    exact ⟨v, r ++ ws, rfl, h1, Dens.append h2 k⟩
theorem Dens.one {d : D} {v : V} (h : Den C H d v) : Dens C H [d] [v] := ⟨v, [], rfl, h, rfl⟩
theorem Dens.take : ∀ {ds : List D} {vs : List V} (n : Nat), Dens C H ds vs → Dens C H (ds.take n) (vs.take n)
  | _, _, 0, _ => rfl
  | [], _, n + 1, h => by rw [show _ = [] from h]; rfl
  | d :: ds, vs, n + 1, h => by
    obtain ⟨v, r, rfl, h1, h2⟩ := h
    exact ⟨v, r.take n, rfl, h1, Dens.take n h2⟩
theorem Dens.drop : ∀ {ds : List D} {vs : List V} (n : Nat), Dens C H ds vs → Dens C H (ds.drop n) (vs.drop n)
  | _, _, 0, h => h
  | [], _, n + 1, h => by rw [show _ = [] from h]; rfl
  | d :: ds, vs, n + 1, h => by
    obtain ⟨v, r, rfl, h1, h2⟩ := h
    exact Dens.drop n h2
theorem Dens.set {d : D} {v : V} (q : Den C H d v) : ∀ {ds : List D} {vs : List V} (n : Nat), Dens C H ds vs → Dens C H (ds.set n d) (vs.set n v)
  | [], _, n, h => by rw [show _ = [] from h]; rfl
  | d :: ds, vs, 0, h => by
    obtain ⟨v, r, rfl, h1, h2⟩ := h
    exact ⟨_, r, rfl, q, h2⟩
  | d :: ds, vs, n + 1, h => by
    obtain ⟨v, r, rfl, h1, h2⟩ := h
    exact ⟨v, r.set n _, rfl, h1, Dens.set q n h2⟩
theorem Dens.reverse : ∀ {ds : List D} {vs : List V}, Dens C H ds vs → Dens C H ds.reverse vs.reverse
  | [], _, h => by rw [show _ = [] from h]; rfl
  | d :: ds, vs, h => by
    obtain ⟨v, r, rfl, h1, h2⟩ := h
    rw [List.reverse_cons, List.reverse_cons]
    exact Dens.append (Dens.reverse h2) (Dens.one h1)
end

/-! ### the relation of states -/
section
variable (C : Com)
def AVR (ι : Sum Nat Nat → Addr) (H : Hp) (n : Nat) : AV → V → Prop
  | .t d, v => Den C H d v
  | .b k, v => k < n ∧ v = .ref (ι (.inr k))
  | .s i, v => v = .ref (ι (.inl i))
def AVRs (ι : Sum Nat Nat → Addr) (H : Hp) (n : Nat) : List AV → List V → Prop
  | [], vs => vs = []
  | a :: as, vs => ∃ v r, vs = v :: r ∧ AVR C ι H n a v ∧ AVRs ι H n as r
def AVRF (ι : Sum Nat Nat → Addr) (H : Hp) (n : Nat) : List (Str × AV) → List (Str × V) → Prop
  | [], vs => vs = []
  | (f, a) :: as, vs => ∃ v r, vs = (f, v) :: r ∧ AVR C ι H n a v ∧ AVRF ι H n as r
def AVRK (ι : Sum Nat Nat → Addr) (H : Hp) (n : Nat) : List (D × AV) → List (Key × V) → Prop
  | [], vs => vs = []
  | (k, a) :: as, vs => ∃ q v r, vs = (q, v) :: r ∧ keyD k = some q ∧ AVR C ι H n a v ∧ AVRK ι H n as r
def CellR (ι : Sum Nat Nat → Addr) (H : Hp) (n : Nat) (a : Addr) : Cell → Prop
  | .lst xs => ∃ vs, H a = some (.lst vs) ∧ Dens C H xs vs
  | .lsa xs => ∃ vs, H a = some (.lst vs) ∧ AVRs C ι H n xs vs
  | .dic kvs => ∃ kv, H a = some (.dK kv) ∧ DenK C H kvs kv
  | .dia kvs => ∃ kv, H a = some (.dK kv) ∧ AVRK C ι H n kvs kv
  | .ins c fs => ∃ ca dx fv, C.mg c = some (.ref ca) ∧ H a = some (.ins ca dx fv) ∧ AVRF C ι H n fs fv
end
def AV.box : AV → List Nat
  | .t _ => []
  | .b k => [k]
  | .s _ => []
def AV.isS : AV → Bool
  | .s _ => true
  | _ => false
def Cell.hasS : Cell → Bool
  | .lst _ => false
  | .lsa xs => xs.any AV.isS
  | .dic _ => false
  | .dia kvs => kvs.any fun q => q.2.isS
  | .ins _ fs => fs.any fun q => q.2.isS
def Cell.box : Cell → List Nat
  | .lst _ => []
  | .lsa xs => xs.flatMap AV.box
  | .dic _ => []
  | .dia kvs => kvs.flatMap fun q => q.2.box
  | .ins _ fs => fs.flatMap fun q => q.2.box
def live (m : M) : Sum Nat Nat → Option Cell
  | .inl i => match m.σ[i]? with
    | some (some (SV.own c)) => some c
    | some (some (SV.lock c)) => some c
    | _ => none
  | .inr n => m.S[n]?
/-- cells below b refer to cells below b alone -/
def BoxLow (b : Nat) (S : List Cell) : Prop := ∀ (j : Nat) (c : Cell) (k : Nat), S[j]? = some c → k ∈ c.box → j < b → k < b
structure Rel (C : Com) (ι : Sum Nat Nat → Addr) (σ : L2.St) (H : Hp) (m : M) : Prop where
  len : σ.length = m.σ.length
  slot : ∀ (i : Nat) (a : AV), m.σ[i]? = some (some (SV.av a)) → a.isS = false ∧ ∃ v, σ[i]? = some (some v) ∧ AVR C ι H m.S.length a v
  slotO : ∀ (i : Nat) (c : Cell), live m (.inl i) = some c → σ[i]? = some (some (.ref (ι (.inl i))))
  cell : ∀ x c, live m x = some c → CellR C ι H m.S.length (ι x) c
  noS : ∀ x c, live m x = some c → c.hasS = false
  inj : ∀ x y c c', live m x = some c → live m y = some c' → ι x = ι y → x = y
  low : m.base ≤ m.S.length

section
variable {C : Com} {H H' : Hp} {ι ι' : Sum Nat Nat → Addr} {n n' : Nat}
/-- the references below n are the same, those to slots too -/
structure Agree (n : Nat) (ι ι' : Sum Nat Nat → Addr) : Prop where
  b : ∀ k, k < n → ι' (.inr k) = ι (.inr k)
  s : ∀ i, ι' (.inl i) = ι (.inl i)
theorem Agree.refl {n : Nat} {ι : Sum Nat Nat → Addr} : Agree n ι ι := ⟨fun _ _ => rfl, fun _ => rfl⟩
theorem Agree.trans {n n' : Nat} {ι ι' ι'' : Sum Nat Nat → Addr} (a : Agree n ι ι') (b : Agree n' ι' ι'') (h : n ≤ n') : Agree n ι ι'' :=
  ⟨fun k hk => (b.b k (Nat.lt_of_lt_of_le hk h)).trans (a.b k hk), fun i => (b.s i).trans (a.s i)⟩
theorem AVR.mono (m : Mono H H') (g : Agree n ι ι') (hn : n ≤ n') : ∀ {a : AV} {v : V}, AVR C ι H n a v → AVR C ι' H' n' a v
  | .t d, v, h => Den.mono m d v h
  | .b k, v, ⟨h1, h2⟩ => ⟨Nat.lt_of_lt_of_le h1 hn, by rw [g.b k h1]; exact h2⟩
  | .s i, v, h => by
    show v = _
    rw [g.s i]
    exact h
theorem AVRs.mono (m : Mono H H') (g : Agree n ι ι') (hn : n ≤ n') : ∀ {a : List AV} {v : List V}, AVRs C ι H n a v → AVRs C ι' H' n' a v
  | [], v, h => h
  | _ :: _, _, h => by
    obtain ⟨v, r, e, h1, h2⟩ := h
    exact ⟨v, r, e, h1.mono m g hn, AVRs.mono m g hn h2⟩
theorem AVRF.mono (m : Mono H H') (g : Agree n ι ι') (hn : n ≤ n') : ∀ {a : List (Str × AV)} {v : List (Str × V)}, AVRF C ι H n a v → AVRF C ι' H' n' a v
  | [], v, h => h
  | (_, _) :: _, _, h => by
    obtain ⟨v, r, e, h1, h2⟩ := h
    exact ⟨v, r, e, h1.mono m g hn, AVRF.mono m g hn h2⟩
theorem AVRK.mono (m : Mono H H') (g : Agree n ι ι') (hn : n ≤ n') : ∀ {a : List (D × AV)} {v : List (Key × V)}, AVRK C ι H n a v → AVRK C ι' H' n' a v
  | [], v, h => h
  | (_, _) :: _, _, h => by
    obtain ⟨q, v, r, e, h0, h1, h2⟩ := h
    exact ⟨q, v, r, e, h0, h1.mono m g hn, AVRK.mono m g hn h2⟩
/-- a cell whose own object is as it was -/
theorem CellR.mono (m : Mono H H') (g : Agree n ι ι') (hn : n ≤ n') {a : Addr} (e : H' a = H a) : ∀ {c : Cell}, CellR C ι H n a c → CellR C ι' H' n' a c
  | .lst xs, h => by
    obtain ⟨vs, h1, h2⟩ := h
    exact ⟨vs, by rw [e]; exact h1, Dens.mono m _ _ h2⟩
  | .lsa xs, h => by
    obtain ⟨vs, h1, h2⟩ := h
    exact ⟨vs, by rw [e]; exact h1, h2.mono m g hn⟩
  | .dic kvs, h => by
    obtain ⟨kv, h1, h2⟩ := h
    exact ⟨kv, by rw [e]; exact h1, DenK.mono m _ _ h2⟩
  | .dia kvs, h => by
    obtain ⟨kv, h1, h2⟩ := h
    exact ⟨kv, by rw [e]; exact h1, h2.mono m g hn⟩
  | .ins c fs, h => by
    obtain ⟨ca, dx, fv, h0, h1, h2⟩ := h
    exact ⟨ca, dx, fv, h0, by rw [e]; exact h1, h2.mono m g hn⟩
/-- the object of a cell is one that may change -/
theorem CellR.there {a : Addr} : ∀ {c : Cell}, CellR C ι H n a c → ∃ u, H a = some u ∧ Chg u ∧ Mut (some u)
  | .lst xs, ⟨_, h1, _⟩ => ⟨_, h1, trivial, trivial⟩
  | .lsa xs, ⟨_, h1, _⟩ => ⟨_, h1, trivial, trivial⟩
  | .dic kvs, h => by
    obtain ⟨kv, h1, _⟩ := h
    exact ⟨_, h1, trivial, trivial⟩
  | .dia kvs, ⟨_, h1, _⟩ => ⟨_, h1, trivial, trivial⟩
  | .ins c fs, ⟨_, _, _, _, h1, _⟩ => ⟨_, h1, trivial, trivial⟩
/-- the abstract heap goes on, every live cell's object as it was -/
theorem Rel.mono {σ : L2.St} {m : M} (r : Rel C ι σ H m) (mo : Mono H H') (same : ∀ x c, live m x = some c → H' (ι x) = H (ι x)) : Rel C ι σ H' m where
  len := r.len
  slot := fun i a h => by
    obtain ⟨h0, v, h1, h2⟩ := r.slot i a h
    exact ⟨h0, v, h1, h2.mono mo .refl (Nat.le_refl _)⟩
  slotO := r.slotO
  cell := fun x c h => (r.cell x c h).mono mo .refl (Nat.le_refl _) (same x c h)
  noS := r.noS
  inj := r.inj
  low := r.low
/-- a new object -/
theorem Rel.new {σ : L2.St} {m : M} (r : Rel C ι σ H m) {p : Addr} {o : HO} (h : H p = none) : Rel C ι σ (upd H p o) m :=
  r.mono (Mono.new h) fun x c hx => by
    obtain ⟨u, h1, _⟩ := (r.cell x c hx).there
    exact upd_ne (ne_of_none h1 h)
end
end BL
end part_BLa

section part_BLb
set_option Elab.async false
set_option linter.all false
set_option maxRecDepth 100000
set_option maxHeartbeats 4000000
set_option autoImplicit false
/-! BLb: what expressions, tests and statements do; the judgements; freezing. -/
namespace BL
open PySem PySem.Spec PyProof.Rows L2

inductive Out (α : Type) where
  | ok (a : α) (m : M) | exc (x : D) (m : M) | stuck
abbrev Ex (α : Type) := M → Out α
def Out.bind {α β : Type} : Out α → (α → M → Out β) → Out β
  | .ok a m, f => f a m
  | .exc x m, _ => .exc x m
  | .stuck, _ => .stuck
/-- a value as it comes: a value, or a new thing that nobody holds -/
inductive RV where
  | av (a : AV) | own (c : Cell)
inductive SOut where
  | nx (m : M) | ret (v : RV) (m : M) | brk (m : M) | ct (m : M) | exc (x : D) (m : M) | stuck
abbrev Stm := M → SOut

/-- the address is a live cell's -/
def Lv (m : M) (ι : Sum Nat Nat → Addr) (a : Addr) : Prop := ∃ x c, live m x = some c ∧ ι x = a
structure Ext (m : M) (ι : Sum Nat Nat → Addr) (H : Hp) (m' : M) (ι' : Sum Nat Nat → Addr) (H' : Hp) : Prop where
  mono : Mono H H'
  keep : ∀ a o, H a = some o → ¬ Lv m ι a → H' a = some o ∧ ¬ Lv m' ι' a
  b : ∀ k, k < m.S.length → ι' (.inr k) = ι (.inr k)
  len : m.S.length ≤ m'.S.length
  there : ∀ a, H' a = none → H a = none
  base : m'.base = m.base
  box : ∀ b, b ≤ m.base → BoxLow b m.S → BoxLow b m'.S
theorem Ext.refl {m : M} {ι : Sum Nat Nat → Addr} {H : Hp} : Ext m ι H m ι H := ⟨.refl, fun _ _ h n => ⟨h, n⟩, fun _ _ => rfl, Nat.le_refl _, fun _ h => h, rfl, fun _ _ h => h⟩
theorem Ext.trans {m m' m'' : M} {ι ι' ι'' : Sum Nat Nat → Addr} {H H' H'' : Hp} (a : Ext m ι H m' ι' H') (b : Ext m' ι' H' m'' ι'' H'') : Ext m ι H m'' ι'' H'' :=
  ⟨a.mono.trans b.mono, fun c o h n => let ⟨h1, n1⟩ := a.keep c o h n; b.keep c o h1 n1, fun k hk => (b.b k (Nat.lt_of_lt_of_le hk a.len)).trans (a.b k hk), Nat.le_trans a.len b.len, fun c h => a.there c (b.there c h), b.base.trans a.base, fun d hd h => b.box d (by rw [a.base]; exact hd) (a.box d hd h)⟩
/-- .. of an expression: what slots hold stands where it stood -/
structure ExtE (m : M) (ι : Sum Nat Nat → Addr) (H : Hp) (m' : M) (ι' : Sum Nat Nat → Addr) (H' : Hp) : Prop extends Ext m ι H m' ι' H' where
  s : ∀ i, ι' (.inl i) = ι (.inl i)
theorem ExtE.refl {m : M} {ι : Sum Nat Nat → Addr} {H : Hp} : ExtE m ι H m ι H := ⟨.refl, fun _ => rfl⟩
theorem ExtE.trans {m m' m'' : M} {ι ι' ι'' : Sum Nat Nat → Addr} {H H' H'' : Hp} (a : ExtE m ι H m' ι' H') (b : ExtE m' ι' H' m'' ι'' H'') : ExtE m ι H m'' ι'' H'' :=
  ⟨a.toExt.trans b.toExt, fun i => (b.s i).trans (a.s i)⟩
theorem ExtE.agree {m m' : M} {ι ι' : Sum Nat Nat → Addr} {H H' : Hp} (a : ExtE m ι H m' ι' H') : Agree m.S.length ι ι' := ⟨a.b, a.s⟩
theorem AVR.ext {C : Com} {m m' : M} {ι ι' : Sum Nat Nat → Addr} {H H' : Hp} {a : AV} {v : V} (r : AVR C ι H m.S.length a v) (e : ExtE m ι H m' ι' H') : AVR C ι' H' m'.S.length a v := r.mono e.mono e.agree e.len

/-- an exception's data -/
def XR (C : Com) (x : D) (cls : Value) (d : Option Addr) (H : Hp) : Prop := match x with
  | .ins c fs => ∃ ca dx fv, C.mg c = some (.ref ca) ∧ cls = .ref ca ∧ d = some dx ∧ H dx = some (.xd fv) ∧ DenF C H fs fv
  | _ => False
/-- a thing that is new, or that a slot held -/
def Frs (m : M) (ι : Sum Nat Nat → Addr) (H : Hp) (a : Addr) : Prop := H a = none ∨ ∃ i c, live m (.inl i) = some c ∧ ι (.inl i) = a
theorem Frs.of {C : Com} {m m1 : M} {ι ι1 : Sum Nat Nat → Addr} {H H1 : Hp} {σ1 : L2.St} {a : Addr} (ex : Ext m ι H m1 ι1 H1) (r1 : Rel C ι1 σ1 H1 m1) (f : Frs m1 ι1 H1 a) : Frs m ι H a := by
  rcases f with f | ⟨i, c, hl, e⟩
  · exact .inl (ex.there a f)
  · cases h : H a with
    | none => exact .inl h
    | some o =>
      by_cases lv : Lv m ι a
      · obtain ⟨x, c', hx, e'⟩ := lv
        cases x with
        | inl j => exact .inr ⟨j, c', hx, e'⟩
        | inr n =>
          have hn : n < m.S.length := (List.getElem?_eq_some_iff.mp (show m.S[n]? = some c' from hx)).1
          have hn1 : n < m1.S.length := Nat.lt_of_lt_of_le hn ex.len
          have q := r1.inj (.inl i) (.inr n) c (m1.S[n]) hl (by show m1.S[n]? = _; exact List.getElem?_eq_getElem hn1) (by rw [e, ex.b n hn, e'])
          cases q
      · exact absurd ⟨.inl i, c, hl, e⟩ (ex.keep a o h lv).2
theorem Frs.ne {m : M} {ι : Sum Nat Nat → Addr} {H : Hp} {a b : Addr} {o : HO} (f : Frs m ι H a) (h : H b = some o) (n : ¬ Lv m ι b) : b ≠ a := fun e => by
  subst e
  rcases f with f | ⟨i, c, hl, e⟩
  · rw [f] at h; cases h
  · exact n ⟨_, c, hl, e⟩
/-- how a result lies: the state ahead of it, the state behind it -/
abbrev Rl (α : Type) := Com → M → (Sum Nat Nat → Addr) → Hp → (Sum Nat Nat → Addr) → Hp → M → α → V → Prop
def RA : Rl AV := fun C _ _ _ ι H' m a v => AVR C ι H' m.S.length a v
def RR : Rl RV := fun C m0 ι0 H ι H' m r v => match r with
  | .av a => AVR C ι H' m.S.length a v
  | .own c => ∃ a, v = .ref a ∧ CellR C ι H' m.S.length a c ∧ c.hasS = false ∧ ¬ Lv m ι a ∧ Frs m0 ι0 H a
theorem RR.from {C : Com} {m m1 m2 : M} {ι ι1 ι2 : Sum Nat Nat → Addr} {H H1 H2 : Hp} {σ1 : L2.St} {r : RV} {v : V} (ex : Ext m ι H m1 ι1 H1) (r1 : Rel C ι1 σ1 H1 m1) (h : RR C m1 ι1 H1 ι2 H2 m2 r v) : RR C m ι H ι2 H2 m2 r v := by
  cases r with
  | av a => exact h
  | own c =>
    obtain ⟨a, e, h1, h2, h3, h4⟩ := h
    exact ⟨a, e, h1, h2, h3, h4.of ex r1⟩
def RAs (C : Com) (ι : Sum Nat Nat → Addr) (H' : Hp) (m : M) (as : List AV) (vs : List V) : Prop := AVRs C ι H' m.S.length as vs

section
variable (C : Com)
/-- what is wanted of an outcome -/
def OkO {α β : Type} (W : WX) (R : (Sum Nat Nat → Addr) → Hp → M → α → β → Prop) (σ : L2.St) (H : Hp) (ι : Sum Nat Nat → Addr) (m : M) (Q : β → Hp → Prop) : Out α → Prop
  | .ok a m' => ∀ ι' H' v, ExtE m ι H m' ι' H' → Rel C ι' σ H' m' → R ι' H' m' a v → Q v H'
  | .exc x m' => ∀ ι' H' cls d, ExtE m ι H m' ι' H' → Rel C ι' σ H' m' → XR C x cls d H' → W cls d σ H'
  | .stuck => False
def tG {α : Type} (W : WX) (R : Rl α) (F : Ex α) : TE := fun σ H Q => ∃ ι m, Rel C ι σ H m ∧ OkO C W (fun ι' H' m' a v => R C m ι H ι' H' m' a v) σ H ι m Q (F m)
def tB (W : WX) (F : Ex Bool) : TT := fun σ H Q => ∃ ι m, Rel C ι σ H m ∧ OkO C W (fun _ _ _ a v => a = v) σ H ι m Q (F m)
def tAs (W : WX) (F : Ex (List AV)) : TA := fun σ H Q => ∃ ι m, Rel C ι σ H m ∧ OkO C W (fun ι' H' m' a v => RAs C ι' H' m' a v) σ H ι m Q (F m)
def OkS (W : WX) (D : Ends) (σ : L2.St) (H : Hp) (ι : Sum Nat Nat → Addr) (m : M) : SOut → Prop
  | .nx m' => ∀ ι' H' σ', Ext m ι H m' ι' H' → Rel C ι' σ' H' m' → D.nx σ' H'
  | .brk m' => ∀ ι' H' σ', Ext m ι H m' ι' H' → Rel C ι' σ' H' m' → D.bk σ' H'
  | .ct m' => ∀ ι' H' σ', Ext m ι H m' ι' H' → Rel C ι' σ' H' m' → D.ct σ' H'
  | .ret a m' => ∀ ι' H' σ' v, Ext m ι H m' ι' H' → Rel C ι' σ' H' m' → RR C m ι H ι' H' m' a v → D.rt v H'
  | .exc x m' => ∀ ι' H' σ' cls d, Ext m ι H m' ι' H' → Rel C ι' σ' H' m' → XR C x cls d H' → W cls d σ' H'
  | .stuck => False
def tS (W : WX) (G : Stm) : TS := fun D σ H => ∃ ι m, Rel C ι σ H m ∧ OkS C W D σ H ι m (G m)
end

/-- the body at hand -/
structure Bd (C : Com) (N : List Str) (sc : Scope) (k : Nat) (X : Cx) : Prop where
  com : (⟨X.prog, X.w, X.K, X.mg, X.base⟩ : Com) = C
  hN : X.N = N
  hsc : X.env.scope = sc
  calm : X.calm = true
  room : Room k X.A

section
variable (C : Com) (N : List Str) (sc : Scope) (k : Nat)
structure SE (e : Expr) (F : Ex RV) : Prop where
  run : ∀ X W, Bd C N sc k X → Takes X W → PE X e (tG C W RR F)
structure SA (e : Expr) (F : Ex AV) : Prop where
  run : ∀ X W, Bd C N sc k X → Takes X W → PE X e (tG C W RA F)
structure SB (e : Expr) (F : Ex Bool) : Prop where
  run : ∀ X W, Bd C N sc k X → Takes X W → PT X e (tB C W F)
/-- .. within and, or -/
structure SW (e : Expr) (F : Ex Bool) : Prop where
  run : ∀ X W, Bd C N sc k X → Takes X W → PW X e (tB C W F)
structure SAs (es : List Expr) (F : Ex (List AV)) : Prop where
  run : ∀ X W, Bd C N sc k X → Takes X W → PA X es (tAs C W F)
end

/-! ### readings -/
theorem pe_imp {X : Cx} {e : Expr} {t t' : TE} (h : PE X e t) (i : ∀ σ H Q, t' σ H Q → t σ H Q) : PE X e t' := ⟨fun pins s σ H Q I q => h.run pins s σ H Q I (i σ H Q q)⟩
theorem pt_imp {X : Cx} {e : Expr} {t t' : TT} (h : PT X e t) (i : ∀ σ H Q, t' σ H Q → t σ H Q) : PT X e t' := ⟨fun pins s σ H Q I q => h.run pins s σ H Q I (i σ H Q q)⟩
theorem pw_imp {X : Cx} {e : Expr} {t t' : TT} (h : PW X e t) (i : ∀ σ H Q, t' σ H Q → t σ H Q) : PW X e t' := ⟨fun wh pins s σ H Q I q => h.run wh pins s σ H Q I (i σ H Q q)⟩
theorem pa_imp {X : Cx} {e : List Expr} {t t' : TA} (h : PA X e t) (i : ∀ σ H Q, t' σ H Q → t σ H Q) : PA X e t' := ⟨fun p pins s σ H Q I q => h.run p pins s σ H Q I (i σ H Q q)⟩
theorem ps_imp {X : Cx} {e : Stmt} {t t' : TS} (h : PS X e t) (i : ∀ D σ H, t' D σ H → t D σ H) : PS X e t' := ⟨fun pins s σ H D I q => h.run pins s σ H D I (i D σ H q)⟩
theorem pss_imp {X : Cx} {e : List Stmt} {t t' : TS} (h : PSs X e t) (i : ∀ D σ H, t' D σ H → t D σ H) : PSs X e t' := ⟨fun pins s σ H D I q => h.run pins s σ H D I (i D σ H q)⟩

section
variable {C : Com} {W : WX} {σ : L2.St} {H : Hp} {ι : Sum Nat Nat → Addr} {m : M}
/-- an outcome is handed on -/
theorem OkO.bind {α β γ δ : Type} {R : (Sum Nat Nat → Addr) → Hp → M → α → γ → Prop} {R' : (Sum Nat Nat → Addr) → Hp → M → β → δ → Prop} {o : Out α} {f : α → M → Out β} {Q : δ → Hp → Prop} {Q1 : γ → Hp → Prop} (h : OkO C W R' σ H ι m Q (o.bind f))
    (hq : ∀ a m1 ι1 H1 v, o = .ok a m1 → ExtE m ι H m1 ι1 H1 → Rel C ι1 σ H1 m1 → R ι1 H1 m1 a v → OkO C W R' σ H1 ι1 m1 Q (f a m1) → Q1 v H1) : OkO C W R σ H ι m Q1 o := by
  cases o with
  | ok a m1 =>
    intro ι1 H1 v ex r rv
    refine hq a m1 ι1 H1 v rfl ex r rv ?_
    have h' : OkO C W R' σ H ι m Q (f a m1) := h
    revert h'
    cases f a m1 with
    | ok b m2 => exact fun h' ι2 H2 u ex2 r2 ru => h' ι2 H2 u (ex.trans ex2) r2 ru
    | exc x m2 => exact fun h' ι2 H2 c d ex2 r2 ru => h' ι2 H2 c d (ex.trans ex2) r2 ru
    | stuck => exact fun h' => h'
  | exc x m1 => exact h
  | stuck => exact h
/-- from here on -/
theorem OkO.from {α β : Type} {R : (Sum Nat Nat → Addr) → Hp → M → α → β → Prop} {ι1 : Sum Nat Nat → Addr} {H1 : Hp} {m1 : M} {o : Out α} {Q : β → Hp → Prop} (h : OkO C W R σ H ι m Q o) (ex : ExtE m ι H m1 ι1 H1) : OkO C W R σ H1 ι1 m1 Q o := by
  cases o with
  | ok b m2 => exact fun ι2 H2 u ex2 r2 ru => h ι2 H2 u (ex.trans ex2) r2 ru
  | exc x m2 => exact fun ι2 H2 c d ex2 r2 ru => h ι2 H2 c d (ex.trans ex2) r2 ru
  | stuck => exact h
theorem OkS.from {D : Ends} {ι1 : Sum Nat Nat → Addr} {H1 : Hp} {σ1 : L2.St} {m1 : M} {o : SOut} (h : OkS C W D σ H ι m o) (ex : Ext m ι H m1 ι1 H1) (r1 : Rel C ι1 σ1 H1 m1) : OkS C W D σ1 H1 ι1 m1 o := by
  cases o with
  | nx m2 => exact fun ι2 H2 u ex2 r2 => h ι2 H2 u (ex.trans ex2) r2
  | brk m2 => exact fun ι2 H2 u ex2 r2 => h ι2 H2 u (ex.trans ex2) r2
  | ct m2 => exact fun ι2 H2 u ex2 r2 => h ι2 H2 u (ex.trans ex2) r2
  | ret a m2 => exact fun ι2 H2 σ2 v ex2 r2 ra => h ι2 H2 σ2 v (ex.trans ex2) r2 (ra.from ex r1)
  | exc x m2 => exact fun ι2 H2 σ2 c d ex2 r2 ru => h ι2 H2 σ2 c d (ex.trans ex2) r2 ru
  | stuck => exact h
end
end BL
end part_BLb

section part_BLc
set_option Elab.async false
set_option linter.all false
set_option maxRecDepth 100000
set_option maxHeartbeats 4000000
set_option autoImplicit false
/-! BLc: freezing; names, constants; values into slots; blocks. -/
namespace BL
open PySem PySem.Spec PyProof.Rows L2

/-! ### freezing: what will not change any more -/
def Fzb : HO → Prop
  | .lst _ => True
  | .dK _ => True
  | .dT _ => True
  | .ins _ _ _ => True
  | _ => False
theorem Fzb.chg {u : HO} (h : Fzb u) : Chg u := by
  cases u <;> first | trivial | exact h.elim
section
variable {X : Cx} {pins : List (Addr × Obj)} {σ : L2.St} {H : Hp} {s : Shared} {a : Addr} {u : HO}
theorem obj_of (ok : HOk X.prog X.w H s.heap) (h : H a = some u) (c : Fzb u) : ∃ o, s.heap.get? a = some o := by
  have x := ok a u h
  have l := x.lt
  cases u with
  | lst xs => obtain ⟨_, _, _, _, e⟩ := x; exact ⟨_, e⟩
  | dK kvs => obtain ⟨_, _, _, _, o, _, _, e, _⟩ := x; exact ⟨o, e⟩
  | dT kvs => obtain ⟨_, _, _, _, o, _, _, e, _⟩ := x; exact ⟨o, e⟩
  | ins C dx fs => obtain ⟨_, _, _, e, _⟩ := x; exact ⟨_, e⟩
  | _ => exact c.elim
theorem inv_freeze (I : Inv X pins σ H s) (h : H a = some u) (c : Fzb u) : ∃ o, Inv X pins σ (upd H a (.frz o u)) s := by
  obtain ⟨o, ho⟩ := obj_of I.hok h c
  have ne : ∀ {b : Addr}, H b = none → b ≠ a := fun {b} q e => by rw [e, h] at q; cases q
  have nt : ∀ {b : Addr} {xs : List V}, H b = some (.tup xs) → b ≠ a := fun {b xs} q e => by
    rw [e, h] at q; cases q; exact c
  have nf : ∀ {b : Addr} {o' u'}, H b = some (.frz o' u') → b ≠ a := fun {b o' u'} q e => by
    rw [e, h] at q; cases q; exact c
  have nb : ∀ {b : Addr} {ps}, H b = some (.tbl ps) → b ≠ a := fun {b ps} q e => by
    rw [e, h] at q; cases q; exact c
  have nw : ∀ {b : Addr} {y}, H b = some (.own y) → b ≠ a := fun {b y} q e => by
    rw [e, h] at q; cases q; exact c
  have stay : ∀ {b : Addr} {v : HO}, ObjOk X.prog X.w H s.heap b v → ObjOk X.prog X.w (upd H a (.frz o u)) s.heap b v := fun {b v} x =>
    x.stay (fun _ _ _ q => q) (fun b' q => by rw [upd_ne (nw q)]; exact q) fun b' xs q => by rw [upd_ne (nt q)]; exact q
  refine ⟨o, I.ok, I.os, I.bare, ⟨I.base.keep, I.base.slot, fun b ob e n hx => ?_, I.base.there, fun b xs e => ?_, fun b ob w e => ?_, fun b ps e => ?_⟩, I.loc, I.cell, ?_, fun x c' e => ?_, fun p hp => ?_, fun b v e => ?_, I.len⟩
  · have q := I.base.free b ob e n hx
    rw [upd_ne (ne q)]
    exact q
  · have q := I.base.tups b xs e
    rw [upd_ne (nt q)]
    exact q
  · have q := I.base.frzs b ob w e
    rw [upd_ne (nf q)]
    exact q
  · obtain ⟨more, q⟩ := I.base.tbls b ps e
    exact ⟨more, by rw [upd_ne (nb q)]; exact q⟩
  · rw [upd_ne (ne I.free)]
    exact I.free
  · rw [upd_ne (ne (I.freeC x c' e))]
    exact I.freeC x c' e
  · obtain ⟨p1, p2, p3, p4, p5⟩ := I.pin p hp
    exact ⟨p1, by rw [upd_ne (ne p2)]; exact p2, p3, p4, p5⟩
  · by_cases hb : b = a
    · subst hb
      rw [upd_same] at e
      cases e
      exact ⟨ho, stay (I.hok b u h)⟩
    · rw [upd_ne hb] at e
      exact stay (I.hok b v e)
end
/-- the value's thing may be frozen -/
def Fz (v : V) (H : Hp) (Q : VK) : Prop := Q v H ∨ ∃ a u, v = .ref a ∧ H a = some u ∧ Fzb u ∧ ∀ o, Q v (upd H a (.frz o u))
theorem pe_fz {X : Cx} {e : Expr} {t : TE} (h : PE X e t) : PE X e (fun σ H Q => t σ H fun v H1 => Fz v H1 Q) := by
  refine ⟨fun pins s σ H Q I q => thn (h.run pins s σ H _ I q) fun u s1 ⟨v, H1, I1, r1, q1⟩ => ?_⟩
  rcases q1 with q1 | ⟨a, w, rfl, ha, c, q1⟩
  · exact ⟨v, H1, I1, r1, q1⟩
  · obtain ⟨o, I2⟩ := inv_freeze I1 ha c
    exact ⟨_, _, I2, r1, q1 o⟩

/-! ### small steps of states -/
section
variable {C : Com} {ι : Sum Nat Nat → Addr} {σ : L2.St} {H : Hp} {m : M}
/-- a thing that nobody holds is frozen -/
theorem Rel.frz {a : Addr} {u w : HO} (r : Rel C ι σ H m) (h : H a = some u) (c : Chg u) (n : ¬ Lv m ι a) : Rel C ι σ (upd H a w) m :=
  r.mono (Mono.put h c) fun x c hx => upd_ne fun e => n ⟨x, c, hx, e⟩
theorem ExtE.put {a : Addr} {u w : HO} (h : H a = some u) (c : Chg u) (l : Lv m ι a) : ExtE m ι H m ι (upd H a w) := by
  refine ⟨⟨Mono.put h c, fun b o hb nl => ?_, fun _ _ => rfl, Nat.le_refl _, fun b hb => ?_, rfl, fun _ _ h => h⟩, fun _ => rfl⟩
  · have : b ≠ a := fun e => nl (e ▸ l)
    exact ⟨by rw [upd_ne this]; exact hb, nl⟩
  · by_cases e : b = a
    · rw [e, upd_same] at hb; cases hb
    · rw [upd_ne e] at hb; exact hb
theorem ExtE.new {a : Addr} {w : HO} (h : H a = none) : ExtE m ι H m ι (upd H a w) := by
  refine ⟨⟨Mono.new h, fun b o hb nl => ⟨by rw [upd_ne (ne_of_none hb h)]; exact hb, nl⟩, fun _ _ => rfl, Nat.le_refl _, fun b hb => ?_, rfl, fun _ _ h => h⟩, fun _ => rfl⟩
  by_cases e : b = a
  · rw [e]; exact h
  · rw [upd_ne e] at hb; exact hb
theorem Rel.notLv (r : Rel C ι σ H m) {a : Addr} (h : H a = none) : ¬ Lv m ι a := fun ⟨x, c, hx, e⟩ => by
  obtain ⟨u, h1, _⟩ := (r.cell x c hx).there
  rw [e, h] at h1; cases h1
end

/-- a tree of a thing -/
def avsD : List AV → Option (List D)
  | [] => some []
  | .t d :: r => match avsD r with
    | some ds => some (d :: ds)
    | none => none
  | _ :: _ => none
def fldD : List (Str × AV) → Option (List (Str × D))
  | [] => some []
  | (f, .t d) :: r => match fldD r with
    | some ds => some ((f, d) :: ds)
    | none => none
  | _ :: _ => none
def cellD : Cell → Option D
  | .lst xs => some (.lst xs)
  | .dic kvs => some (.dic kvs)
  | .ins c fs => match fldD fs with
    | some ds => some (.ins c ds)
    | none => none
  | _ => none
theorem fldD_ok {C : Com} {ι : Sum Nat Nat → Addr} {H : Hp} {n : Nat} : ∀ {fs : List (Str × AV)} {ds : List (Str × D)} {fv : List (Str × V)}, fldD fs = some ds → AVRF C ι H n fs fv → DenF C H ds fv
  | [], ds, fv, e, h => by cases e; exact h
  | (f, .t d) :: r, ds, fv, e, h => by
    unfold fldD at e
    cases q : fldD r with
    | none => rw [q] at e; cases e
    | some es =>
      rw [q] at e; cases e
      obtain ⟨v, r', e1, h1, h2⟩ := h
      exact ⟨v, r', e1, h1, fldD_ok q h2⟩
  | (f, .b _) :: r, ds, fv, e, h => by cases e
  | (f, .s _) :: r, ds, fv, e, h => by cases e
/-- a cell, frozen, is its tree -/
theorem cellD_ok {C : Com} {ι : Sum Nat Nat → Addr} {H : Hp} {n : Nat} {a : Addr} {c : Cell} {d : D} (e : cellD c = some d) (h : CellR C ι H n a c) : ∃ u, H a = some u ∧ Fzb u ∧ ∀ o, Den C (upd H a (.frz o u)) d (.ref a) := by
  cases c with
  | lst xs =>
    cases e
    obtain ⟨vs, h1, h2⟩ := h
    exact ⟨_, h1, trivial, fun o => ⟨a, o, vs, rfl, upd_same, Dens.mono (Mono.put h1 trivial) _ _ h2⟩⟩
  | lsa xs => cases e
  | dic kvs =>
    cases e
    obtain ⟨kv, h1, h2⟩ := h
    exact ⟨_, h1, trivial, fun o => ⟨a, o, _, rfl, upd_same, DenK.mono (Mono.put h1 trivial) _ _ h2⟩⟩
  | dia kvs => cases e
  | ins c fs =>
    have e' : (match fldD fs with
      | some ds => some (D.ins c ds)
      | none => none) = some d := e
    cases q : fldD fs with
    | none => rw [q] at e'; cases e'
    | some ds =>
      rw [q] at e'; cases e'
      obtain ⟨ca, dx, fv, h0, h1, h2⟩ := h
      exact ⟨_, h1, trivial, fun o => ⟨a, o, ca, dx, fv, rfl, h0, upd_same, DenF.mono (Mono.put h1 trivial) _ _ (fldD_ok q h2)⟩⟩

/-- a new thing becomes a tree -/
def frzE (F : Ex RV) : Ex AV := fun m => (F m).bind fun v m' => match v with
  | .av a => .ok a m'
  | .own c => match cellD c with
    | some d => .ok (.t d) m'
    | none => .stuck
/-- what a slot holds becomes a tree: the value is kept by others from now on -/
def stA (a : AV) (m : M) : Out AV := match a with
  | .s i => match m.σ[i]? with
    | some (some (SV.own c)) => match cellD c with
      | some d => .ok (.t d) { m with σ := m.σ.set i (some (SV.av (.t d))) }
      | none => .stuck
    | _ => .stuck
  | a => .ok a m
def stE (F : Ex AV) : Ex AV := fun m => (F m).bind stA

section
variable {C : Com} {ι : Sum Nat Nat → Addr} {σ : L2.St} {H : Hp} {m : M}
theorem live_own {i : Nat} {c : Cell} (h : m.σ[i]? = some (some (SV.own c))) : live m (.inl i) = some c := by simp [live, h]
theorem live_lock {i : Nat} {c : Cell} (h : m.σ[i]? = some (some (SV.lock c))) : live m (.inl i) = some c := by simp [live, h]
theorem live_set_av {i : Nat} {a : AV} {x : Sum Nat Nat} {c : Cell} (h : live { m with σ := m.σ.set i (some (SV.av a)) } x = some c) : live m x = some c ∧ x ≠ .inl i := by
  cases x with
  | inr n => exact ⟨h, fun e => by cases e⟩
  | inl j =>
    by_cases e : i = j
    · subst e
      exfalso
      unfold live at h
      by_cases hl : i < m.σ.length
      · simp only [List.getElem?_set_self hl] at h
        cases h
      · simp only [List.getElem?_eq_none (show (m.σ.set i (some (SV.av a))).length ≤ i by simpa using hl)] at h
        cases h
    · refine ⟨?_, fun q => e (by cases q; rfl)⟩
      unfold live at h ⊢
      simp only [List.getElem?_set_ne e] at h
      exact h
/-- slot i, which held a thing, holds the tree of it -/
theorem Rel.slotFrz {i : Nat} {c : Cell} {d : D} {u : HO} {o : Obj} (r : Rel C ι σ H m) (hi : live m (.inl i) = some c) (h : H (ι (.inl i)) = some u) (hf : Chg u) (hd : Den C (upd H (ι (.inl i)) (.frz o u)) d (.ref (ι (.inl i)))) :
    Rel C ι σ (upd H (ι (.inl i)) (.frz o u)) { m with σ := m.σ.set i (some (SV.av (.t d))) } where
  len := by simpa using r.len
  slot := fun j a hj => by
    by_cases e : i = j
    · subst e
      have hl : i < m.σ.length := by
        have q := r.slotO i c hi
        have := (List.getElem?_eq_some_iff.mp q).1
        rw [← r.len]; exact this
      have hj' : (m.σ.set i (some (SV.av (.t d))))[i]? = some (some (SV.av a)) := hj
      rw [List.getElem?_set_self hl] at hj'
      cases hj'
      exact ⟨rfl, _, r.slotO i c hi, hd⟩
    · have hj' : (m.σ.set i (some (SV.av (.t d))))[j]? = some (some (SV.av a)) := hj
      rw [List.getElem?_set_ne e] at hj'
      obtain ⟨h0, v, h1, h2⟩ := r.slot j a hj'
      exact ⟨h0, v, h1, h2.mono (Mono.put h hf) .refl (Nat.le_refl _)⟩
  slotO := fun j c' hj => r.slotO j c' (live_set_av hj).1
  cell := fun x c' hx => by
    obtain ⟨h1, h2⟩ := live_set_av hx
    exact (r.cell x c' h1).mono (Mono.put h hf) .refl (Nat.le_refl _) (upd_ne fun e => h2 (r.inj _ _ _ _ h1 hi e))
  noS := fun x c' hx => r.noS x c' (live_set_av hx).1
  inj := fun x y c' c'' hx hy e => r.inj x y c' c'' (live_set_av hx).1 (live_set_av hy).1 e
  low := r.low
theorem ExtE.slotFrz {i : Nat} {c : Cell} {d : D} {u : HO} {o : Obj} (r : Rel C ι σ H m) (hi : live m (.inl i) = some c) (h : H (ι (.inl i)) = some u) (hf : Chg u) :
    ExtE m ι H { m with σ := m.σ.set i (some (SV.av (.t d))) } ι (upd H (ι (.inl i)) (.frz o u)) := by
  have e := ExtE.put (m := m) (w := .frz o u) h hf ⟨_, _, hi, rfl⟩
  exact ⟨⟨e.mono, fun a ob ha nl => ⟨(e.keep a ob ha nl).1, fun ⟨x, c', hx, q⟩ => nl ⟨x, c', (live_set_av hx).1, q⟩⟩, e.b, e.len, e.there, rfl, fun _ _ h => h⟩, e.s⟩
end

section
variable {C : Com} {N : List Str} {sc : Scope} {k : Nat} {e : Expr}
/-- a new thing is frozen as it comes -/
theorem SE.frz {F : Ex RV} (h : SE C N sc k e F) : SA C N sc k e (frzE F) := by
  refine ⟨fun X W B tk => pe_imp (pe_fz (h.run X W B tk)) fun σ H Q ⟨ι, m, r, q⟩ => ⟨ι, m, r, ?_⟩⟩
  refine OkO.bind q fun v m1 ι1 H1 u eq ex r1 ru q1 => ?_
  cases v with
  | av a => exact .inl (q1 ι1 H1 u .refl r1 ru)
  | own c =>
    obtain ⟨a, rfl, hc, hs, nl, hn⟩ := ru
    unfold frzE at q
    rw [eq] at q
    have q' : OkO C W (fun ι' H' m' a v => RA C m ι H ι' H' m' a v) σ H ι m Q (match cellD c with
      | some d => Out.ok (AV.t d) m1
      | none => .stuck) := q
    cases ed : cellD c with
    | none => rw [ed] at q'; exact q'.elim
    | some d =>
      rw [ed] at q'
      obtain ⟨w, hw, fz, hd⟩ := cellD_ok ed hc
      refine .inr ⟨a, w, rfl, hw, fz, fun o => ?_⟩
      refine q' ι1 _ _ ⟨⟨ex.mono.trans (Mono.put hw fz.chg), fun b ob hb n => ?_, ex.b, ex.len, fun b hb => ?_, ex.base, ex.box⟩, ex.s⟩ (r1.frz hw fz.chg nl) (hd o)
      · obtain ⟨h1, h2⟩ := ex.keep b ob hb n
        exact ⟨by rw [upd_ne (hn.ne hb n)]; exact h1, h2⟩
      · by_cases e : b = a
        · rw [e, upd_same] at hb; cases hb
        · rw [upd_ne e] at hb
          exact ex.there b hb
/-- what a slot holds is frozen as it is told to others -/
theorem SA.st {F : Ex AV} (h : SA C N sc k e F) : SA C N sc k e (stE F) := by
  refine ⟨fun X W B tk => pe_imp (pe_fz (h.run X W B tk)) fun σ H Q ⟨ι, m, r, q⟩ => ⟨ι, m, r, ?_⟩⟩
  refine OkO.bind q fun v m1 ι1 H1 u eq ex r1 ru q1 => ?_
  cases v with
  | t d => exact .inl (q1 ι1 H1 u .refl r1 ru)
  | b n => exact .inl (q1 ι1 H1 u .refl r1 ru)
  | s i =>
    have eu : u = .ref (ι1 (.inl i)) := ru
    subst eu
    have q1' : OkO C W (fun ι' H' m' a v => RA C m ι H ι' H' m' a v) σ H1 ι1 m1 Q (match m1.σ[i]? with
      | some (some (SV.own c)) => match cellD c with
        | some d => .ok (.t d) { m1 with σ := m1.σ.set i (some (SV.av (.t d))) }
        | none => .stuck
      | _ => .stuck) := q1
    split at q1'
    · rename_i c hc
      have hl : live m1 (.inl i) = some c := live_own hc
      cases ed : cellD c with
      | none => rw [ed] at q1'; exact q1'.elim
      | some d =>
        rw [ed] at q1'
        obtain ⟨w, hw, fz, hd⟩ := cellD_ok ed (r1.cell _ _ hl)
        exact .inr ⟨_, w, rfl, hw, fz, fun o => q1' ι1 _ _ (ExtE.slotFrz r1 hl hw fz.chg) (r1.slotFrz hl hw fz.chg (hd o)) (hd o)⟩
    · exact q1'.elim
theorem SA.se {F : Ex AV} (h : SA C N sc k e F) : SE C N sc k e (fun m => (F m).bind fun a m' => .ok (.av a) m') := by
  refine ⟨fun X W B tk => pe_imp (h.run X W B tk) fun σ H Q ⟨ι, m, r, q⟩ => ⟨ι, m, r, ?_⟩⟩
  exact OkO.bind q fun v m1 ι1 H1 u eq ex r1 ru q1 => q1 ι1 H1 u .refl r1 ru
end
end BL
end part_BLc

section part_BLd
set_option Elab.async false
set_option linter.all false
set_option maxRecDepth 100000
set_option maxHeartbeats 4000000
set_option autoImplicit false
/-! BLd: names, constants, operators, tests, blocks. -/
namespace BL
open PySem PySem.Spec PyProof.Rows L2

/-! ### the program's functions on states -/
def pureE (d : D) : Ex AV := fun m => .ok (.t d) m
def getV (i : Nat) : Ex AV := fun m => match m.σ[i]? with
  | some (some (SV.av a)) => .ok a m
  | some (some (SV.own _)) => .ok (.s i) m
  | some (some (SV.lock _)) => .ok (.s i) m
  | _ => .stuck
/-- by the tree alone -/
def t1 (f : D → Option D) (F : Ex AV) : Ex AV := fun m => (F m).bind fun a m' => match a with
  | .t d => match f d with
    | some r => .ok (.t r) m'
    | none => .stuck
  | _ => .stuck
def t2 (f : D → D → Option D) (F G : Ex AV) : Ex AV := fun m => (F m).bind fun a m' => match a with
  | .t d => (G m').bind fun b m'' => match b with
    | .t e => match f d e with
      | some r => .ok (.t r) m''
      | none => .stuck
    | _ => .stuck
  | _ => .stuck
def boolE (F : Ex AV) : Ex Bool := fun m => (F m).bind fun a m' => match a with
  | .t (.bl b) => .ok b m'
  | _ => .stuck
def notB (F : Ex Bool) : Ex Bool := fun m => (F m).bind fun b m' => .ok (!b) m'
def andB (F G : Ex Bool) : Ex Bool := fun m => (F m).bind fun b m' => match b with
  | true => G m'
  | false => .ok false m'
def orB (F G : Ex Bool) : Ex Bool := fun m => (F m).bind fun b m' => match b with
  | true => .ok true m'
  | false => G m'
def blE (F : Ex Bool) : Ex AV := fun m => (F m).bind fun b m' => .ok (.t (.bl b)) m'
def ifE {α : Type} (T : Ex Bool) (F G : Ex α) : Ex α := fun m => (T m).bind fun b m' => match b with
  | true => F m'
  | false => G m'
def nilE : Ex (List AV) := fun m => .ok [] m
def consE (F : Ex AV) (G : Ex (List AV)) : Ex (List AV) := fun m => (F m).bind fun a m' => (G m').bind fun as m'' => .ok (a :: as) m''

section
variable {C : Com} {W : WX} {σ : L2.St} {H : Hp} {ι : Sum Nat Nat → Addr} {m : M}
theorem Rel.get {i : Nat} {a : AV} {m' : M} (r : Rel C ι σ H m) (h : getV i m = .ok a m') : m' = m ∧ ∃ v, σ[i]? = some (some v) ∧ AVR C ι H m.S.length a v := by
  unfold getV at h
  split at h
  · rename_i b hb
    cases h
    obtain ⟨_, v, h1, h2⟩ := r.slot i _ hb
    exact ⟨rfl, v, h1, h2⟩
  · rename_i c hc
    cases h
    exact ⟨rfl, _, r.slotO i c (live_own hc), rfl⟩
  · rename_i c hc
    cases h
    exact ⟨rfl, _, r.slotO i c (live_lock hc), rfl⟩
  · cases h
theorem OkO.fin {α β : Type} {R : (Sum Nat Nat → Addr) → Hp → M → α → β → Prop} {a : α} {Q : β → Hp → Prop} {v : β} {H' : Hp} (h : OkO C W R σ H ι m Q (.ok a m)) (ex : ExtE m ι H m ι H') (r : Rel C ι σ H' m) (rv : R ι H' m a v) : Q v H' := h ι H' v ex r rv
end

section
variable {C : Com} {N : List Str} {sc : Scope} {k : Nat} {e : Expr} {pos : Pos}
def visB (sc : Scope) (x : Str) : Bool := match sc.names.lookup x with
  | some .local => true
  | some .cell => true
  | some .free => true
  | _ => false
theorem vis_of {sc : Scope} {x : Str} (h : visB sc x = true) : Vis sc x := by
  unfold visB at h
  unfold Vis
  split at h
  · rename_i q; exact .inl q
  · rename_i q; exact .inr (.inl q)
  · rename_i q; exact .inr (.inr q)
  · cases h
theorem SA.var {i : Nat} {x : Str} (hN : N[i]? = some x) (hv : visB sc x = true) (hd : (x == ("__debug__" : Str)) = false) (hcd : (x == ("__classdict__" : Str)) = false) : SA C N sc k (.Name x pos) (getV i) := by
  refine ⟨fun X W B tk => pe_imp (pe_var (by rw [B.hN]; exact hN) (by rw [B.hsc]; exact vis_of hv) hd hcd) fun σ H Q ⟨ι, m, r, q⟩ => ?_⟩
  cases e : getV i m with
  | ok a m' =>
    rw [e] at q
    obtain ⟨rfl, v, h1, h2⟩ := r.get e
    exact ⟨v, h1, q ι H v .refl r h2⟩
  | exc x m' =>
    unfold getV at e
    split at e <;> cases e
  | stuck => rw [e] at q; exact q.elim
theorem SA.int {i : Int} {j} : SA C N sc k (.Constant (.int i) j pos) (pureE (.int i)) :=
  ⟨fun X W B tk => pe_imp pe_int fun σ H Q ⟨ι, m, r, q⟩ => q ι H _ .refl r rfl⟩
theorem SA.bl {b : Bool} {j} : SA C N sc k (.Constant (.bool b) j pos) (pureE (.bl b)) :=
  ⟨fun X W B tk => pe_imp pe_bl fun σ H Q ⟨ι, m, r, q⟩ => q ι H _ .refl r rfl⟩
theorem SA.non {j} : SA C N sc k (.Constant .none j pos) (pureE .non) :=
  ⟨fun X W B tk => pe_imp pe_non fun σ H Q ⟨ι, m, r, q⟩ => q ι H _ .refl r rfl⟩
theorem SA.str {x : Str} {l : List Nat} {j} (h : x = mkS l) : SA C N sc k (.Constant (.str x) j pos) (pureE (.str l)) :=
  ⟨fun X W B tk => pe_imp pe_str fun σ H Q ⟨ι, m, r, q⟩ => q ι H _ .refl r (by rw [h]; rfl)⟩

/-! ### operators by trees -/
/-- a rule of two values that does nothing to the heap -/
def Pure2 (f : D → D → Option D) (r : R2) : Prop := ∀ (C : Com) (H : Hp) (d e res : D) (x y : V) (Q : VK), f d e = some res → Den C H d x → Den C H e y → (∀ z, Den C H res z → Q z H) → r x y H Q
theorem op2_core {X : Cx} {W : WX} {a b : Expr} {F G : Ex AV} {f : D → D → Option D} {r : R2} (hf : Pure2 f r) {σ : L2.St} {H : Hp} {Q : VK} (h : tG C W RA (t2 f F G) σ H Q) : tOp r (tG C W RA F) (tG C W RA G) σ H Q := by
  obtain ⟨ι, m, rl, q⟩ := h
  refine ⟨ι, m, rl, ?_⟩
  refine OkO.bind q fun u m1 ι1 H1 x e1 ex1 r1 rx q1 => ?_
  cases u with
  | t d =>
    refine ⟨ι1, m1, r1, ?_⟩
    refine OkO.bind q1 fun w m2 ι2 H2 y e2 ex2 r2 ry q2 => ?_
    cases w with
    | t e =>
      have q2' : OkO C W (fun ι' H' m' a v => RA C m ι H ι' H' m' a v) σ H2 ι2 m2 Q (match f d e with
        | some r => .ok (.t r) m2
        | none => .stuck) := q2
      cases ef : f d e with
      | none => rw [ef] at q2'; exact q2'.elim
      | some res =>
        rw [ef] at q2'
        exact hf C H2 d e res x y Q ef (Den.mono ex2.mono _ _ rx) ry fun z hz => q2' ι2 H2 z .refl r2 hz
    | b n => exact q2.elim
    | s n => exact q2.elim
  | b n => exact q1.elim
  | s n => exact q1.elim
theorem SA.op2 {a b : Expr} {F G : Ex AV} {f : D → D → Option D} {op : Operator} {r : R2} (ha : SA C N sc k a F) (hb : SA C N sc k b G) (ho : ∀ X : Cx, OpR X (binaryOp op) r) (hf : Pure2 f r) : SA C N sc k (.BinOp a op b pos) (t2 f F G) :=
  ⟨fun X W B tk => pe_imp (pe_op (ho X) (ha.run X W B tk) (hb.run X W B tk)) fun σ H Q h => op2_core (X := X) (a := a) (b := b) hf h⟩
theorem SA.cmp2 {a b : Expr} {F G : Ex AV} {f : D → D → Option D} {op : CmpOp} {r : R2} (ha : SA C N sc k a F) (hb : SA C N sc k b G) (ho : ∀ X : Cx, OpR X (compareOp op) r) (hf : Pure2 f r) (hm : behindInMarks op b = false) : SA C N sc k (.Compare a [op] [b] pos) (t2 f F G) :=
  ⟨fun X W B tk => pe_imp (pe_cmpR (ho X) (ha.run X W B tk) (hb.run X W B tk) hm) fun σ H Q h => op2_core (X := X) (a := a) (b := b) hf h⟩
/-- a test of a value that is a bool -/
theorem tb_core {W : WX} {F : Ex AV} {σ : L2.St} {H : Hp} {Q : Bool → Hp → Prop} (h : BL.tB C W (boolE F) σ H Q) : tG C W RA F σ H fun x H' => ∃ k, x = .bl k ∧ Q k H' := by
  obtain ⟨ι, m, rl, q⟩ := h
  refine ⟨ι, m, rl, ?_⟩
  refine OkO.bind q fun u m1 ι1 H1 x e1 ex1 r1 rx q1 => ?_
  cases u with
  | t d =>
    cases d with
    | bl b => exact ⟨b, rx, q1 ι1 H1 b .refl r1 rfl⟩
    | _ => exact q1.elim
  | b n => exact q1.elim
  | s n => exact q1.elim
theorem SB.cmp2 {a b : Expr} {F G : Ex AV} {f : D → D → Option D} {op : CmpOp} {r : R2} (ha : SA C N sc k a F) (hb : SA C N sc k b G) (ho : ∀ X : Cx, OpR X (compareOp op) r) (hf : Pure2 f r) (hm : behindInMarks op b = false) : SB C N sc k (.Compare a [op] [b] pos) (boolE (t2 f F G)) :=
  ⟨fun X W B tk => pt_imp (pt_cmpR (ho X) (ha.run X W B tk) (hb.run X W B tk) hm) fun σ H Q h => op2_core (X := X) (a := a) (b := b) hf (tb_core h)⟩

/-! ### tests -/
theorem SB.of {F : Ex AV} (h : SA C N sc k e F) (he : ∀ (env : Env) (whole : Sem Value), isTrue e env whole = (do let v ← whole; standAt e.pos; holding [v] (truthy v))) : SB C N sc k e (boolE F) :=
  ⟨fun X W B tk => pt_imp (pt_val (h.run X W B tk) (he X.env)) fun σ H Q q => tb_core q⟩
theorem SW.sb {F : Ex Bool} (h : SW C N sc k e F) : SB C N sc k e F := ⟨fun X W B tk => (h.run X W B tk).pt⟩
theorem SB.not {F : Ex Bool} (h : SB C N sc k e F) : SB C N sc k (.UnaryOp .Not e pos) (notB F) := by
  refine ⟨fun X W B tk => pt_imp (pt_not (h.run X W B tk)) fun σ H Q ⟨ι, m, rl, q⟩ => ⟨ι, m, rl, ?_⟩⟩
  refine OkO.bind q fun u m1 ι1 H1 x e1 ex1 r1 rx q1 => ?_
  cases rx
  exact q1 ι1 H1 _ .refl r1 rfl
theorem SW.and1 {F : Ex Bool} (h : SB C N sc k e F) : SW C N sc k (.BoolOp .And [e] pos) F := ⟨fun X W B tk => pw_and1 (h.run X W B tk)⟩
theorem SW.or1 {F : Ex Bool} (h : SB C N sc k e F) : SW C N sc k (.BoolOp .Or [e] pos) F := ⟨fun X W B tk => pw_or1 (h.run X W B tk)⟩
theorem SW.and {b : Expr} {rest : List Expr} {F G : Ex Bool} (h : SB C N sc k e F) (g : SW C N sc k (.BoolOp .And (b :: rest) pos) G) : SW C N sc k (.BoolOp .And (e :: b :: rest) pos) (andB F G) := by
  refine ⟨fun X W B tk => pw_imp (pw_and (h.run X W B tk) (g.run X W B tk)) fun σ H Q ⟨ι, m, rl, q⟩ => ⟨ι, m, rl, ?_⟩⟩
  refine OkO.bind q fun u m1 ι1 H1 x e1 ex1 r1 rx q1 => ?_
  cases rx
  cases u with
  | true => exact ⟨ι1, m1, r1, q1⟩
  | false => exact q1 ι1 H1 _ .refl r1 rfl
theorem SW.or {b : Expr} {rest : List Expr} {F G : Ex Bool} (h : SB C N sc k e F) (g : SW C N sc k (.BoolOp .Or (b :: rest) pos) G) : SW C N sc k (.BoolOp .Or (e :: b :: rest) pos) (orB F G) := by
  refine ⟨fun X W B tk => pw_imp (pw_or (h.run X W B tk) (g.run X W B tk)) fun σ H Q ⟨ι, m, rl, q⟩ => ⟨ι, m, rl, ?_⟩⟩
  refine OkO.bind q fun u m1 ι1 H1 x e1 ex1 r1 rx q1 => ?_
  cases rx
  cases u with
  | true => exact q1 ι1 H1 _ .refl r1 rfl
  | false => exact ⟨ι1, m1, r1, q1⟩
/-! .. as values -/
def bandE (F G : Ex AV) : Ex AV := fun m => (F m).bind fun a m' => match a with
  | .t (.bl true) => G m'
  | .t (.bl false) => .ok (.t (.bl false)) m'
  | _ => .stuck
def borE (F G : Ex AV) : Ex AV := fun m => (F m).bind fun a m' => match a with
  | .t (.bl true) => .ok (.t (.bl true)) m'
  | .t (.bl false) => G m'
  | _ => .stuck
theorem SA.bool1 {op} {F : Ex AV} (h : SA C N sc k e F) : SA C N sc k (.BoolOp op [e] pos) F := ⟨fun X W B tk => pe_one (h.run X W B tk)⟩
theorem SA.band {b : Expr} {rest : List Expr} {F G : Ex AV} (h : SA C N sc k e F) (g : SA C N sc k (.BoolOp .And (b :: rest) pos) G) : SA C N sc k (.BoolOp .And (e :: b :: rest) pos) (bandE F G) := by
  refine ⟨fun X W B tk => pe_imp (pe_and (h.run X W B tk) (g.run X W B tk)) fun σ H Q ⟨ι, m, rl, q⟩ => ⟨ι, m, rl, ?_⟩⟩
  refine OkO.bind q fun u m1 ι1 H1 x e1 ex1 r1 rx q1 => ?_
  cases u with
  | t d =>
    cases d with
    | bl c =>
      cases c with
      | true => exact ⟨true, rx, ι1, m1, r1, q1⟩
      | false => exact ⟨false, rx, q1 ι1 H1 _ .refl r1 rfl⟩
    | _ => exact q1.elim
  | b n => exact q1.elim
  | s n => exact q1.elim
theorem SA.bor {b : Expr} {rest : List Expr} {F G : Ex AV} (h : SA C N sc k e F) (g : SA C N sc k (.BoolOp .Or (b :: rest) pos) G) : SA C N sc k (.BoolOp .Or (e :: b :: rest) pos) (borE F G) := by
  refine ⟨fun X W B tk => pe_imp (pe_or (h.run X W B tk) (g.run X W B tk)) fun σ H Q ⟨ι, m, rl, q⟩ => ⟨ι, m, rl, ?_⟩⟩
  refine OkO.bind q fun u m1 ι1 H1 x e1 ex1 r1 rx q1 => ?_
  cases u with
  | t d =>
    cases d with
    | bl c =>
      cases c with
      | true => exact ⟨true, rx, q1 ι1 H1 _ .refl r1 rfl⟩
      | false => exact ⟨false, rx, ι1, m1, r1, q1⟩
    | _ => exact q1.elim
  | b n => exact q1.elim
  | s n => exact q1.elim
def bnotD : D → Option D
  | .bl b => some (.bl (!b))
  | _ => none
theorem SA.bnot {F : Ex AV} (h : SA C N sc k e F) : SA C N sc k (.UnaryOp .Not e pos) (t1 bnotD F) := by
  refine ⟨fun X W B tk => pe_imp (pe_not (h.run X W B tk)) fun σ H Q ⟨ι, m, rl, q⟩ => ⟨ι, m, rl, ?_⟩⟩
  refine OkO.bind q fun u m1 ι1 H1 x e1 ex1 r1 rx q1 => ?_
  cases u with
  | t d =>
    cases d with
    | bl c => exact ⟨c, rx, q1 ι1 H1 _ .refl r1 rfl⟩
    | _ => exact q1.elim
  | b n => exact q1.elim
  | s n => exact q1.elim
theorem SA.ife {c a b : Expr} {T : Ex Bool} {F G : Ex AV} (hc : SB C N sc k c T) (ha : SA C N sc k a F) (hb : SA C N sc k b G) : SA C N sc k (.IfExp c a b pos) (ifE T F G) := by
  refine ⟨fun X W B tk => pe_imp (pe_ifExp (hc.run X W B tk) (ha.run X W B tk) (hb.run X W B tk)) fun σ H Q ⟨ι, m, rl, q⟩ => ⟨ι, m, rl, ?_⟩⟩
  refine OkO.bind q fun u m1 ι1 H1 x e1 ex1 r1 rx q1 => ?_
  cases rx
  cases u with
  | true => exact ⟨ι1, m1, r1, q1⟩
  | false => exact ⟨ι1, m1, r1, q1⟩

/-! ### argument lists -/
theorem SAs.nil : SAs C N sc k [] nilE := ⟨fun X W B tk => pa_imp pa_nil fun σ H Q ⟨ι, m, rl, q⟩ => q ι H [] .refl rl rfl⟩
theorem SAs.cons {es : List Expr} {F : Ex AV} {G : Ex (List AV)} (h : SA C N sc k e F) (g : SAs C N sc k es G) (hs : ∀ env : Env, starEach (e :: es) env = (false, eval e env) :: starEach es env) : SAs C N sc k (e :: es) (consE F G) := by
  refine ⟨fun X W B tk => pa_imp (pa_cons (h.run X W B tk) (g.run X W B tk) (hs X.env)) fun σ H Q ⟨ι, m, rl, q⟩ => ⟨ι, m, rl, ?_⟩⟩
  refine OkO.bind q fun u m1 ι1 H1 x e1 ex1 r1 rx q1 => ?_
  refine ⟨ι1, m1, r1, ?_⟩
  refine OkO.bind q1 fun us m2 ι2 H2 xs e2 ex2 r2 rxs q2 => ?_
  exact q2 ι2 H2 (x :: xs) .refl r2 ⟨x, xs, rfl, rx.ext ex2, rxs⟩
end
end BL
end part_BLd

section part_BLe
set_option Elab.async false
set_option linter.all false
set_option maxRecDepth 100000
set_option maxHeartbeats 4000000
set_option autoImplicit false
/-! BLe: statements; a def's promise by its body. -/
namespace BL
open PySem PySem.Spec PyProof.Rows L2

section
variable {C : Com} {H H' : Hp} {ι ι' : Sum Nat Nat → Addr} {n n' : Nat}
theorem AVR.mono2 (m : Mono H H') (g : ∀ k, k < n → ι' (.inr k) = ι (.inr k)) (hn : n ≤ n') : ∀ {a : AV} {v : V}, a.isS = false → AVR C ι H n a v → AVR C ι' H' n' a v
  | .t d, v, _, h => Den.mono m d v h
  | .b k, v, _, ⟨h1, h2⟩ => ⟨Nat.lt_of_lt_of_le h1 hn, by rw [g k h1]; exact h2⟩
theorem AVRs.mono2 (m : Mono H H') (g : ∀ k, k < n → ι' (.inr k) = ι (.inr k)) (hn : n ≤ n') : ∀ {a : List AV} {v : List V}, a.any AV.isS = false → AVRs C ι H n a v → AVRs C ι' H' n' a v
  | [], v, _, h => h
  | _ :: _, _, hs, h => by
    obtain ⟨v, r, e, h1, h2⟩ := h
    simp only [List.any_cons, Bool.or_eq_false_iff] at hs
    exact ⟨v, r, e, h1.mono2 m g hn hs.1, AVRs.mono2 m g hn hs.2 h2⟩
theorem AVRF.mono2 (m : Mono H H') (g : ∀ k, k < n → ι' (.inr k) = ι (.inr k)) (hn : n ≤ n') : ∀ {a : List (Str × AV)} {v : List (Str × V)}, (a.any fun q => q.2.isS) = false → AVRF C ι H n a v → AVRF C ι' H' n' a v
  | [], v, _, h => h
  | (_, _) :: _, _, hs, h => by
    obtain ⟨v, r, e, h1, h2⟩ := h
    simp only [List.any_cons, Bool.or_eq_false_iff] at hs
    exact ⟨v, r, e, h1.mono2 m g hn hs.1, AVRF.mono2 m g hn hs.2 h2⟩
theorem AVRK.mono2 (m : Mono H H') (g : ∀ k, k < n → ι' (.inr k) = ι (.inr k)) (hn : n ≤ n') : ∀ {a : List (D × AV)} {v : List (Key × V)}, (a.any fun q => q.2.isS) = false → AVRK C ι H n a v → AVRK C ι' H' n' a v
  | [], v, _, h => h
  | (_, _) :: _, _, hs, h => by
    obtain ⟨q, v, r, e, h0, h1, h2⟩ := h
    simp only [List.any_cons, Bool.or_eq_false_iff] at hs
    exact ⟨q, v, r, e, h0, h1.mono2 m g hn hs.1, AVRK.mono2 m g hn hs.2 h2⟩
theorem CellR.mono2 (m : Mono H H') (g : ∀ k, k < n → ι' (.inr k) = ι (.inr k)) (hn : n ≤ n') {a : Addr} (e : H' a = H a) : ∀ {c : Cell}, c.hasS = false → CellR C ι H n a c → CellR C ι' H' n' a c
  | .lst xs, _, h => by
    obtain ⟨vs, h1, h2⟩ := h
    exact ⟨vs, by rw [e]; exact h1, Dens.mono m _ _ h2⟩
  | .lsa xs, hs, h => by
    obtain ⟨vs, h1, h2⟩ := h
    exact ⟨vs, by rw [e]; exact h1, h2.mono2 m g hn hs⟩
  | .dic kvs, _, h => by
    obtain ⟨kv, h1, h2⟩ := h
    exact ⟨kv, by rw [e]; exact h1, DenK.mono m _ _ h2⟩
  | .dia kvs, hs, h => by
    obtain ⟨kv, h1, h2⟩ := h
    exact ⟨kv, by rw [e]; exact h1, h2.mono2 m g hn hs⟩
  | .ins c fs, hs, h => by
    obtain ⟨ca, dx, fv, h0, h1, h2⟩ := h
    exact ⟨ca, dx, fv, h0, by rw [e]; exact h1, h2.mono2 m g hn hs⟩
end

theorem set_self {α : Type} {l : List α} {i : Nat} {x : α} (h : l[i]? = some x) : l.set i x = l := by
  obtain ⟨hi, rfl⟩ := List.getElem?_eq_some_iff.mp h
  exact List.set_getElem_self hi
/-! ### slots stored -/
def setSl (m : M) (i : Nat) (s : Option SV) : M := { m with σ := m.σ.set i s }
section
variable {C : Com} {ι : Sum Nat Nat → Addr} {σ : L2.St} {H : Hp} {m : M} {i : Nat}
theorem live_set {s : Option SV} {x : Sum Nat Nat} {c : Cell} (h : live (setSl m i s) x = some c) : (x = .inl i ∧ i < m.σ.length ∧ (s = some (.own c) ∨ s = some (.lock c))) ∨ (x ≠ .inl i ∧ live m x = some c) := by
  cases x with
  | inr n => exact .inr ⟨(fun e => by cases e), h⟩
  | inl j =>
    by_cases e : i = j
    · subst e
      by_cases hl : i < m.σ.length
      · refine .inl ⟨rfl, hl, ?_⟩
        unfold live setSl at h
        simp only [List.getElem?_set_self hl] at h
        split at h
        · rename_i q; cases h; cases q; exact .inl rfl
        · rename_i q; cases h; cases q; exact .inr rfl
        · cases h
      · exfalso
        unfold live setSl at h
        simp only [List.getElem?_eq_none (show (m.σ.set i s).length ≤ i by simpa using hl)] at h
        cases h
    · refine .inr ⟨fun q => e (by cases q; rfl), ?_⟩
      unfold live setSl at h
      simp only [List.getElem?_set_ne e] at h
      exact h
theorem Rel.setAv {a : AV} {v : V} (r : Rel C ι σ H m) (ha : a.isS = false) (h : AVR C ι H m.S.length a v) : Rel C ι (σ.set i (some v)) H (setSl m i (some (.av a))) where
  len := by simpa [setSl] using r.len
  slot := fun j b hj => by
    unfold setSl at hj
    by_cases e : i = j
    · subst e
      by_cases hl : i < m.σ.length
      · rw [List.getElem?_set_self hl] at hj
        cases hj
        exact ⟨ha, v, List.getElem?_set_self (by rw [r.len]; exact hl), h⟩
      · rw [List.getElem?_eq_none (by simpa using hl)] at hj
        cases hj
    · rw [List.getElem?_set_ne e] at hj
      obtain ⟨h0, u, h1, h2⟩ := r.slot j b hj
      exact ⟨h0, u, by rw [List.getElem?_set_ne e]; exact h1, h2⟩
  slotO := fun j c hj => by
    rcases live_set hj with ⟨e, _, q | q⟩ | ⟨e, q⟩
    · cases q
    · cases q
    · rw [List.getElem?_set_ne fun z => e (by rw [z])]
      exact r.slotO j c q
  cell := fun x c hx => by
    rcases live_set hx with ⟨e, _, q | q⟩ | ⟨e, q⟩
    · cases q
    · cases q
    · exact r.cell x c q
  noS := fun x c hx => by
    rcases live_set hx with ⟨e, _, q | q⟩ | ⟨e, q⟩
    · cases q
    · cases q
    · exact r.noS x c q
  inj := fun x y c c' hx hy e => by
    rcases live_set hx with ⟨_, _, q | q⟩ | ⟨_, q⟩
    · cases q
    · cases q
    · rcases live_set hy with ⟨_, _, q' | q'⟩ | ⟨_, q'⟩
      · cases q'
      · cases q'
      · exact r.inj x y c c' q q' e
  low := r.low
theorem Ext.setAv {a : AV} : Ext m ι H (setSl m i (some (.av a))) ι H :=
  ⟨.refl, fun b o hb nl => ⟨hb, fun ⟨x, c, hx, e⟩ => by
    rcases live_set hx with ⟨_, _, q | q⟩ | ⟨_, q⟩
    · cases q
    · cases q
    · exact nl ⟨x, c, q, e⟩⟩, fun _ _ => rfl, Nat.le_refl _, fun _ h => h, rfl, fun _ _ h => h⟩
/-- the slot forgotten -/
theorem Rel.setNo {s : Option V} (r : Rel C ι σ H m) : Rel C ι (σ.set i s) H (setSl m i none) where
  len := by simpa [setSl] using r.len
  slot := fun j b hj => by
    unfold setSl at hj
    by_cases e : i = j
    · subst e
      by_cases hl : i < m.σ.length
      · rw [List.getElem?_set_self hl] at hj
        cases hj
      · rw [List.getElem?_eq_none (by simpa using hl)] at hj
        cases hj
    · rw [List.getElem?_set_ne e] at hj
      obtain ⟨h0, u, h1, h2⟩ := r.slot j b hj
      exact ⟨h0, u, by rw [List.getElem?_set_ne e]; exact h1, h2⟩
  slotO := fun j c hj => by
    rcases live_set hj with ⟨e, _, q | q⟩ | ⟨e, q⟩
    · cases q
    · cases q
    · rw [List.getElem?_set_ne fun z => e (by rw [z])]
      exact r.slotO j c q
  cell := fun x c hx => by
    rcases live_set hx with ⟨e, _, q | q⟩ | ⟨e, q⟩
    · cases q
    · cases q
    · exact r.cell x c q
  noS := fun x c hx => by
    rcases live_set hx with ⟨e, _, q | q⟩ | ⟨e, q⟩
    · cases q
    · cases q
    · exact r.noS x c q
  inj := fun x y c c' hx hy e => by
    rcases live_set hx with ⟨_, _, q | q⟩ | ⟨_, q⟩
    · cases q
    · cases q
    · rcases live_set hy with ⟨_, _, q' | q'⟩ | ⟨_, q'⟩
      · cases q'
      · cases q'
      · exact r.inj x y c c' q q' e
  low := r.low
theorem Ext.setNo : Ext m ι H (setSl m i none) ι H :=
  ⟨.refl, fun b o hb nl => ⟨hb, fun ⟨x, c, hx, e⟩ => by
    rcases live_set hx with ⟨_, _, q | q⟩ | ⟨_, q⟩
    · cases q
    · cases q
    · exact nl ⟨x, c, q, e⟩⟩, fun _ _ => rfl, Nat.le_refl _, fun _ h => h, rfl, fun _ _ h => h⟩
def putI (ι : Sum Nat Nat → Addr) (i : Nat) (a : Addr) : Sum Nat Nat → Addr := fun x => if x = .inl i then a else ι x
theorem putI_same {a : Addr} : putI ι i a (.inl i) = a := by unfold putI; rw [if_pos rfl]
theorem putI_ne {a : Addr} {x : Sum Nat Nat} (h : x ≠ .inl i) : putI ι i a x = ι x := by unfold putI; rw [if_neg h]
/-- the slot holds a thing that nobody else holds -/
theorem Rel.setOwn {c : Cell} {a : Addr} (r : Rel C ι σ H m) (hc : CellR C ι H m.S.length a c) (hs : c.hasS = false) (n : ¬ Lv m ι a) (hi : i < m.σ.length) : Rel C (putI ι i a) (σ.set i (some (.ref a))) H (setSl m i (some (.own c))) where
  len := by simpa [setSl] using r.len
  slot := fun j b hj => by
    unfold setSl at hj
    by_cases e : i = j
    · subst e
      rw [List.getElem?_set_self hi] at hj
      cases hj
    · rw [List.getElem?_set_ne e] at hj
      obtain ⟨h0, u, h1, h2⟩ := r.slot j b hj
      exact ⟨h0, u, by rw [List.getElem?_set_ne e]; exact h1, h2.mono2 .refl (fun k _ => putI_ne (fun q => by cases q)) (Nat.le_refl _) h0⟩
  slotO := fun j c' hj => by
    rcases live_set hj with ⟨e, hl, q⟩ | ⟨e, q⟩
    · cases e
      rw [putI_same]
      exact List.getElem?_set_self (by rw [r.len]; exact hl)
    · rw [List.getElem?_set_ne fun z => e (by rw [z]), putI_ne e]
      exact r.slotO j c' q
  cell := fun x c' hx => by
    rcases live_set hx with ⟨e, _, q | q⟩ | ⟨e, q⟩
    · cases q
      rw [e, putI_same]
      exact hc.mono2 .refl (fun k _ => putI_ne (fun q => by cases q)) (Nat.le_refl _) rfl hs
    · cases q
    · rw [putI_ne e]
      exact (r.cell x c' q).mono2 .refl (fun k _ => putI_ne (fun q => by cases q)) (Nat.le_refl _) rfl (r.noS x c' q)
  noS := fun x c' hx => by
    rcases live_set hx with ⟨e, _, q | q⟩ | ⟨e, q⟩
    · cases q; exact hs
    · cases q
    · exact r.noS x c' q
  inj := fun x y c' c'' hx hy e => by
    rcases live_set hx with ⟨ex, _, _⟩ | ⟨ex, q⟩
    · rcases live_set hy with ⟨ey, _, _⟩ | ⟨ey, q'⟩
      · rw [ex, ey]
      · rw [ex, putI_same, putI_ne ey] at e
        exact absurd ⟨y, c'', q', e.symm⟩ n
    · rcases live_set hy with ⟨ey, _, _⟩ | ⟨ey, q'⟩
      · rw [ey, putI_same, putI_ne ex] at e
        exact absurd ⟨x, c', q, e⟩ n
      · rw [putI_ne ex, putI_ne ey] at e
        exact r.inj x y c' c'' q q' e
  low := r.low
theorem Ext.setOwn {m0 : M} {ι0 : Sum Nat Nat → Addr} {H0 : Hp} {c : Cell} {a : Addr} (ex : Ext m0 ι0 H0 m ι H) (f : Frs m0 ι0 H0 a) : Ext m0 ι0 H0 (setSl m i (some (.own c))) (putI ι i a) H := by
  refine ⟨ex.mono, fun b o hb nl => ?_, fun k hk => ?_, ex.len, ex.there, ex.base, ex.box⟩
  · obtain ⟨h1, h2⟩ := ex.keep b o hb nl
    refine ⟨h1, fun ⟨x, c', hx, e⟩ => ?_⟩
    rcases live_set hx with ⟨q, _, _⟩ | ⟨q, z⟩
    · rw [q, putI_same] at e
      exact f.ne hb nl e.symm
    · rw [putI_ne q] at e
      exact h2 ⟨x, c', z, e⟩
  · rw [putI_ne (fun q => by cases q)]
    exact ex.b k hk
end

structure BdS (C : Com) (N : List Str) (sc : Scope) (k : Nat) (X : Cx) : Prop extends Bd C N sc k X where
  fn : ∀ x, X.fn x = true
  nd : N.Nodup
  own : PassesOwn (model X.prog X.w) X.A X.env X.xe
section
variable (C : Com) (N : List Str) (sc : Scope) (k : Nat)
structure SS (st : Stmt) (G : Stm) : Prop where
  run : ∀ X W, BdS C N sc k X → Takes X W → PS X st (tS C W G)
structure SSs (st : List Stmt) (G : Stm) : Prop where
  run : ∀ X W, BdS C N sc k X → Takes X W → PSs X st (tS C W G)
end

def SOut.bind (o : SOut) (f : M → SOut) : SOut := match o with
  | .nx m => f m
  | o => o
def exS {α : Type} (o : Out α) (f : α → M → SOut) : SOut := match o with
  | .ok a m => f a m
  | .exc x m => .exc x m
  | .stuck => .stuck
def nxS : Stm := fun m => .nx m
def seqS (G G' : Stm) : Stm := fun m => (G m).bind G'
def setS (i : Nat) (F : Ex AV) : Stm := fun m => exS (stE F m) fun a m' => match a with
  | .s _ => .stuck
  | a => .nx (setSl m' i (some (.av a)))
def ownS (i : Nat) (F : Ex RV) : Stm := fun m => exS (F m) fun v m' => match v with
  | .own c => match Nat.blt i m'.σ.length with
    | true => .nx (setSl m' i (some (.own c)))
    | false => .stuck
  | .av (.s _) => .stuck
  | .av a => .nx (setSl m' i (some (.av a)))
def dropS (F : Ex RV) : Stm := fun m => exS (F m) fun _ m' => .nx m'
def retS (F : Ex RV) : Stm := fun m => exS (F m) fun v m' => match v with
  | .av (.s _) => .stuck
  | v => .ret v m'
def retN : Stm := fun m => .ret (.av (.t .non)) m
def ifS (T : Ex Bool) (G G' : Stm) : Stm := fun m => exS (T m) fun b m' => match b with
  | true => G m'
  | false => G' m'
/-- what a slot holds is handed out -/
def mvV (i : Nat) : Ex RV := fun m => match m.σ[i]? with
  | some (some (SV.av a)) => .ok (.av a) m
  | some (some (SV.own c)) => .ok (.own c) (setSl m i none)
  | _ => .stuck

section
variable {C : Com} {W : WX} {σ : L2.St} {H : Hp} {ι : Sum Nat Nat → Addr} {m : M}
theorem OkS.ex {α γ : Type} {D : Ends} {R : (Sum Nat Nat → Addr) → Hp → M → α → γ → Prop} {o : Out α} {f : α → M → SOut} {Q1 : γ → Hp → Prop} (h : OkS C W D σ H ι m (exS o f))
    (hq : ∀ a m1 ι1 H1 v, o = .ok a m1 → ExtE m ι H m1 ι1 H1 → Rel C ι1 σ H1 m1 → R ι1 H1 m1 a v → OkS C W D σ H1 ι1 m1 (f a m1) → Q1 v H1) : OkO C W R σ H ι m Q1 o := by
  cases o with
  | ok a m1 =>
    intro ι1 H1 v ex r rv
    exact hq a m1 ι1 H1 v rfl ex r rv (OkS.from (show OkS C W D σ H ι m (f a m1) from h) ex.toExt r)
  | exc x m1 => exact fun ι' H' cls d ex r x => h ι' H' σ cls d ex.toExt r x
  | stuck => exact h
end

section
variable {C : Com} {N : List Str} {sc : Scope} {k : Nat} {st : Stmt} {rest : List Stmt} {e : Expr} {pos : Pos}
theorem SSs.nil : SSs C N sc k [] nxS := ⟨fun X W B tk => pss_imp pss_nil fun D σ H ⟨ι, m, r, q⟩ => q ι H σ .refl r⟩
theorem SSs.one {G : Stm} (h : SS C N sc k st G) : SSs C N sc k [st] G := ⟨fun X W B tk => pss_one (h.run X W B tk)⟩
theorem SSs.cons {G G' : Stm} (h : SS C N sc k st G) (g : SSs C N sc k rest G') : SSs C N sc k (st :: rest) (seqS G G') := by
  refine ⟨fun X W B tk => pss_imp (pss_cons (h.run X W B tk) (g.run X W B tk)) fun D σ H ⟨ι, m, r, q⟩ => ⟨ι, m, r, ?_⟩⟩
  unfold seqS at q
  cases eq : G m with
  | nx m1 =>
    rw [eq] at q
    exact fun ι1 H1 σ1 ex r1 => ⟨ι1, m1, r1, OkS.from (show OkS C W D σ H ι m (G' m1) from q) ex r1⟩
  | brk m1 => rw [eq] at q; exact q
  | ct m1 => rw [eq] at q; exact q
  | ret a m1 => rw [eq] at q; exact q
  | exc x m1 => rw [eq] at q; exact q
  | stuck => rw [eq] at q; exact q
theorem SS.pass : SS C N sc k (.Pass pos) nxS := ⟨fun X W B tk => ps_imp ps_pass fun D σ H ⟨ι, m, r, q⟩ => q ι H σ .refl r⟩
theorem SS.brk : SS C N sc k (.Break pos) (fun m => .brk m) := ⟨fun X W B tk => ps_imp ps_break fun D σ H ⟨ι, m, r, q⟩ => q ι H σ .refl r⟩
theorem SS.ct : SS C N sc k (.Continue pos) (fun m => .ct m) := ⟨fun X W B tk => ps_imp ps_continue fun D σ H ⟨ι, m, r, q⟩ => q ι H σ .refl r⟩
def locB (sc : Scope) (x : Str) : Bool := match sc.names.lookup x with
  | some .local => true
  | some .cell => true
  | _ => false
theorem loc_of {sc : Scope} {x : Str} (h : locB sc x = true) : L2.Loc sc x := by
  unfold locB at h
  unfold L2.Loc
  split at h
  · rename_i q; exact .inl q
  · rename_i q; exact .inr q
  · cases h
theorem SS.set {i : Nat} {x : Str} {F : Ex AV} {pos' : Pos} (hi : N[i]? = some x) (hx : locB sc x = true) (h : SA C N sc k e F) (hs : ∀ env, swapsWith e (some (.Name x pos')) pos.line env = pure false) : SS C N sc k (.Assign [.Name x pos'] e pos) (setS i F) := by
  refine ⟨fun X W B tk => ps_imp (ps_set (i := i) (by rw [B.hN]; exact B.nd) (by rw [B.hN]; exact hi) (by rw [B.hsc]; exact loc_of hx) (h.st.run X W B.toBd tk) (hs X.env) (.inl (B.fn x))) fun D σ H ⟨ι, m, r, q⟩ => ⟨ι, m, r, ?_⟩⟩
  refine OkS.ex q fun a m1 ι1 H1 v eq ex r1 ra q1 => ?_
  cases a with
  | s j => exact q1.elim
  | t d => exact q1 ι1 H1 _ Ext.setAv (r1.setAv rfl ra)
  | b j => exact q1 ι1 H1 _ Ext.setAv (r1.setAv rfl ra)
theorem SS.own {i : Nat} {x : Str} {F : Ex RV} {pos' : Pos} (hi : N[i]? = some x) (hx : locB sc x = true) (h : SE C N sc k e F) (hs : ∀ env, swapsWith e (some (.Name x pos')) pos.line env = pure false) : SS C N sc k (.Assign [.Name x pos'] e pos) (ownS i F) := by
  refine ⟨fun X W B tk => ps_imp (ps_set (i := i) (by rw [B.hN]; exact B.nd) (by rw [B.hN]; exact hi) (by rw [B.hsc]; exact loc_of hx) (h.run X W B.toBd tk) (hs X.env) (.inl (B.fn x))) fun D σ H ⟨ι, m, r, q⟩ => ⟨ι, m, r, ?_⟩⟩
  have q0 := q
  refine OkS.ex q fun a m1 ι1 H1 v eq ex r1 ra q1 => ?_
  cases a with
  | av a =>
    cases a with
    | s j => exact q1.elim
    | t d => exact q1 ι1 H1 _ Ext.setAv (r1.setAv rfl ra)
    | b j => exact q1 ι1 H1 _ Ext.setAv (r1.setAv rfl ra)
  | own c =>
    obtain ⟨a, rfl, hc, hs', nl, fr⟩ := ra
    unfold ownS at q0
    rw [eq] at q0
    have q0' : OkS C W D σ H ι m (match Nat.blt i m1.σ.length with
      | true => .nx (setSl m1 i (some (.own c)))
      | false => .stuck) := q0
    cases hb : Nat.blt i m1.σ.length with
    | false => rw [hb] at q0'; exact q0'.elim
    | true =>
      rw [hb] at q0'
      exact q0' _ H1 _ (Ext.setOwn ex.toExt fr) (r1.setOwn hc hs' nl (Nat.le_of_ble_eq_true hb))
theorem SS.drop {F : Ex RV} (h : SE C N sc k e F) (hs : ∀ env, swapsWith e none pos.line env = pure false) : SS C N sc k (.Expr e pos) (dropS F) := by
  refine ⟨fun X W B tk => ps_imp (ps_expr (h.run X W B.toBd tk) (hs X.env)) fun D σ H ⟨ι, m, r, q⟩ => ⟨ι, m, r, ?_⟩⟩
  refine OkS.ex q fun a m1 ι1 H1 v eq ex r1 ra q1 => ?_
  exact q1 ι1 H1 σ .refl r1
theorem SS.ret {F : Ex RV} (h : SE C N sc k e F) : SS C N sc k (.Return (some e) pos) (retS F) := by
  refine ⟨fun X W B tk => ps_imp (ps_ret (h.run X W B.toBd tk)) fun D σ H ⟨ι, m, r, q⟩ => ⟨ι, m, r, ?_⟩⟩
  have q0 := q
  refine OkS.ex q fun a m1 ι1 H1 v eq ex r1 ra q1 => ?_
  unfold retS at q0
  rw [eq] at q0
  cases a with
  | av a =>
    cases a with
    | s j => exact q0.elim
    | t d => exact q0 ι1 H1 σ v ex.toExt r1 ra
    | b j => exact q0 ι1 H1 σ v ex.toExt r1 ra
  | own c => exact q0 ι1 H1 σ v ex.toExt r1 ra
theorem SS.retN : SS C N sc k (.Return none pos) retN := ⟨fun X W B tk => ps_imp ps_retN fun D σ H ⟨ι, m, r, q⟩ => q ι H σ .non .refl r rfl⟩
theorem SS.ite {a b : List Stmt} {T : Ex Bool} {G G' : Stm} (hc : SB C N sc k e T) (ha : SSs C N sc k a G) (hb : SSs C N sc k b G') : SS C N sc k (.If e a b pos) (ifS T G G') := by
  refine ⟨fun X W B tk => ps_imp (ps_if (hc.run X W B.toBd tk) (ha.run X W B tk) (hb.run X W B tk)) fun D σ H ⟨ι, m, r, q⟩ => ⟨ι, m, r, ?_⟩⟩
  refine OkS.ex q fun a m1 ι1 H1 v eq ex r1 ra q1 => ?_
  cases ra
  cases a with
  | true => exact ⟨ι1, m1, r1, q1⟩
  | false => exact ⟨ι1, m1, r1, q1⟩
theorem SE.mv {i : Nat} {x : Str} (hN : N[i]? = some x) (hv : visB sc x = true) (hd : (x == ("__debug__" : Str)) = false) (hcd : (x == ("__classdict__" : Str)) = false) : SE C N sc k (.Name x pos) (mvV i) := by
  refine ⟨fun X W B tk => pe_imp (pe_var (by rw [B.hN]; exact hN) (by rw [B.hsc]; exact vis_of hv) hd hcd) fun σ H Q ⟨ι, m, r, q⟩ => ?_⟩
  unfold mvV at q
  split at q
  · rename_i a ha
    obtain ⟨_, v, h1, h2⟩ := r.slot i a ha
    exact ⟨v, h1, q ι H v .refl r h2⟩
  · rename_i c hc
    have hl := live_own hc
    refine ⟨_, r.slotO i c hl, q ι H _ ⟨Ext.setNo, fun _ => rfl⟩ ?_ ⟨_, rfl, r.cell _ c hl, r.noS _ c hl, ?_, .inr ⟨i, c, hl, rfl⟩⟩⟩
    · have r2 := r.setNo (i := i) (s := some (V.ref (ι (.inl i))))
      have e : σ.set i (some (V.ref (ι (.inl i)))) = σ := by
        have h1 := r.slotO i c hl
        exact set_self h1
      rw [e] at r2
      exact r2
    · rintro ⟨x, c', hx, e⟩
      rcases live_set hx with ⟨_, _, z | z⟩ | ⟨z, w⟩
      · cases z
      · cases z
      · exact z (r.inj _ _ _ _ w hl e)
  · exact q.elim
end
end BL
end part_BLe

section part_BLf
set_option Elab.async false
set_option linter.all false
set_option maxRecDepth 100000
set_option maxHeartbeats 4000000
set_option autoImplicit false
/-! BLf: defs: what a def does; its promise; calls. -/
namespace BL
open PySem PySem.Spec PyProof.Rows L2

inductive FOut where
  | ret (v : RV) (S : List Cell) | exc (x : D) (S : List Cell) | stuck
/-- a def: the ground, the arguments, the store -/
abbrev Fn := Nat → List AV → List Cell → FOut
def finT (S : List Cell) (v : RV) (S' : List Cell) : FOut := match v with
  | .av (.t d) => .ret (.av (.t d)) (S'.take S.length)
  | .own (.lst xs) => .ret (.own (.lst xs)) (S'.take S.length)
  | .own (.dic kvs) => .ret (.own (.dic kvs)) (S'.take S.length)
  | _ => .stuck
def slots (n : Nat) (as : List AV) : List (Option SV) := as.map (fun a => some (SV.av a)) ++ List.replicate (n - as.length) none
/-- a def that leaves nothing new in the store -/
def mkT (n : Nat) (G : Stm) : Fn := fun _ as S => match G ⟨slots n as, S, S.length⟩ with
  | .nx m => .ret (.av (.t .non)) (m.S.take S.length)
  | .ret v m => finT S v m.S
  | .exc x m => .exc x (m.S.take S.length)
  | _ => .stuck
/-- one that may -/
def mkN (n : Nat) (G : Stm) : Fn := fun b as S => match G ⟨slots n as, S, b⟩ with
  | .nx m => .ret (.av (.t .non)) m.S
  | .ret v m => .ret v m.S
  | .exc x m => .exc x m.S
  | _ => .stuck

section
variable (C : Com)
abbrev mS (S : List Cell) (b : Nat) : M := ⟨[], S, b⟩
def FOk (Q : VK) (E : XK) (ι : Sum Nat Nat → Addr) (H : Hp) (S : List Cell) (b : Nat) : FOut → Prop
  | .ret rv S' => ∀ ι' H' v, Ext (mS S b) ι H (mS S' b) ι' H' → Rel C ι' [] H' (mS S' b) → RR C (mS S b) ι H ι' H' (mS S' b) rv v → Q v H'
  | .exc x S' => ∀ ι' H' cls d, Ext (mS S b) ι H (mS S' b) ι' H' → Rel C ι' [] H' (mS S' b) → XR C x cls d H' → E cls d H'
  | .stuck => False
def SpF (ar : Nat) (g : Fn) : Sp := fun vs H Q E => ∃ ι b as S, Rel C ι [] H (mS S b) ∧ AVRs C ι H S.length as vs ∧ as.any AV.isS = false ∧ as.length = ar ∧ FOk C Q E ι H S b (g b as S)
end

section
variable {C : Com} {ι : Sum Nat Nat → Addr} {H : Hp} {n : Nat}
theorem AVRs.length : ∀ {as : List AV} {vs : List V}, AVRs C ι H n as vs → vs.length = as.length
  | [], _, h => by rw [show _ = [] from h]; rfl
  | _ :: _, _, h => by
    obtain ⟨v, r, rfl, _, h2⟩ := h
    simp [AVRs.length h2]
theorem AVRs.get : ∀ {as : List AV} {vs : List V} {i : Nat} {a : AV}, AVRs C ι H n as vs → as[i]? = some a → ∃ v, vs[i]? = some v ∧ AVR C ι H n a v
  | [], _, _, _, _, e => by simp at e
  | d :: ds, vs, 0, x, h, e => by
    obtain ⟨v, r, rfl, h1, _⟩ := h
    simp at e; subst e
    exact ⟨v, rfl, h1⟩
  | d :: ds, vs, i + 1, x, h, e => by
    obtain ⟨v, r, rfl, _, h2⟩ := h
    obtain ⟨u, e1, h1⟩ := AVRs.get (i := i) (a := x) h2 (by simpa using e)
    exact ⟨u, by simpa using e1, h1⟩
theorem slots_get {as : List AV} {k i : Nat} {s : SV} (h : (slots k as)[i]? = some (some s)) : ∃ a, as[i]? = some a ∧ s = .av a := by
  unfold slots at h
  by_cases hi : i < as.length
  · rw [List.getElem?_append_left (by simpa using hi), List.getElem?_map] at h
    cases e : as[i]? with
    | none => rw [e] at h; cases h
    | some a => rw [e] at h; cases h; exact ⟨a, rfl, rfl⟩
  · rw [List.getElem?_append_right (by simpa using hi), List.getElem?_replicate] at h
    split at h <;> cases h
theorem slots_live {as : List AV} {k b : Nat} {S : List Cell} {x : Sum Nat Nat} {c : Cell} (h : live ⟨slots k as, S, b⟩ x = some c) : ∃ j, x = .inr j ∧ S[j]? = some c := by
  cases x with
  | inr j => exact ⟨j, rfl, h⟩
  | inl i =>
    exfalso
    unfold live at h
    dsimp only at h
    split at h
    · rename_i q
      obtain ⟨a, _, e⟩ := slots_get q
      cases e
    · rename_i q
      obtain ⟨a, _, e⟩ := slots_get q
      cases e
    · cases h
theorem mS_live {b : Nat} {S : List Cell} {x : Sum Nat Nat} {c : Cell} (h : live (mS S b) x = some c) : ∃ j, x = .inr j ∧ S[j]? = some c := by
  cases x with
  | inr j => exact ⟨j, rfl, h⟩
  | inl i =>
    exfalso
    unfold live at h
    simp at h
theorem start_rel {S : List Cell} {b b' : Nat} {as : List AV} {vs : List V} {N : List Str} (r : Rel C ι [] H (mS S b)) (ra : AVRs C ι H S.length as vs) (hs : as.any AV.isS = false) (hl : as.length ≤ N.length) (hb : b' ≤ S.length) : Rel C ι (L2.start N vs) H ⟨slots N.length as, S, b'⟩ where
  len := by
    have := ra.length
    simp [L2.start, slots, this]
  slot := fun i a h => by
    obtain ⟨a', h1, h2⟩ := slots_get h
    cases h2
    obtain ⟨v, h3, h4⟩ := ra.get h1
    refine ⟨?_, v, ?_, h4⟩
    · have := List.any_eq_false.mp hs a (List.mem_of_getElem? h1)
      simpa using this
    · unfold L2.start
      rw [List.getElem?_append_left (by
        have := (List.getElem?_eq_some_iff.mp h3).1
        simpa using this), List.getElem?_map, h3]
      rfl
  slotO := fun i c h => by
    obtain ⟨j, e, _⟩ := slots_live h
    cases e
  cell := fun x c h => by
    obtain ⟨j, rfl, h⟩ := slots_live h
    exact r.cell (.inr j) c h
  noS := fun x c h => by
    obtain ⟨j, rfl, h⟩ := slots_live h
    exact r.noS (.inr j) c h
  inj := fun x y c c' hx hy e => by
    obtain ⟨j, rfl, hx⟩ := slots_live hx
    obtain ⟨j', rfl, hy⟩ := slots_live hy
    exact r.inj _ _ c c' hx hy e
  low := hb
/-- behind the body: the slots forgotten -/
theorem Rel.store {σ : L2.St} {m : M} (r : Rel C ι σ H m) {b : Nat} (hb : b ≤ m.S.length) : Rel C ι [] H (mS m.S b) where
  len := rfl
  slot := fun i a h => by simp at h
  slotO := fun i c h => by
    obtain ⟨j, e, _⟩ := mS_live h
    cases e
  cell := fun x c h => by
    obtain ⟨j, rfl, h⟩ := mS_live h
    exact r.cell (.inr j) c h
  noS := fun x c h => by
    obtain ⟨j, rfl, h⟩ := mS_live h
    exact r.noS (.inr j) c h
  inj := fun x y c c' hx hy e => by
    obtain ⟨j, rfl, hx⟩ := mS_live hx
    obtain ⟨j', rfl, hy⟩ := mS_live hy
    exact r.inj _ _ c c' hx hy e
  low := hb
theorem AVR.cut {k : Nat} (hk : k ≤ n) : ∀ {a : AV} {v : V}, (∀ q ∈ a.box, q < k) → AVR C ι H n a v → AVR C ι H k a v
  | .t d, _, _, h => h
  | .b q, _, hq, ⟨_, h⟩ => ⟨hq q (by simp [AV.box]), h⟩
  | .s i, _, _, h => h
theorem AVRs.cut {k : Nat} (hk : k ≤ n) : ∀ {a : List AV} {v : List V}, (∀ q ∈ a.flatMap AV.box, q < k) → AVRs C ι H n a v → AVRs C ι H k a v
  | [], _, _, h => h
  | a :: as, _, hq, h => by
    obtain ⟨v, r, e, h1, h2⟩ := h
    refine ⟨v, r, e, h1.cut hk fun q z => hq q ?_, AVRs.cut hk (fun q z => hq q ?_) h2⟩
    · rw [List.flatMap_cons]; exact List.mem_append_left _ z
    · rw [List.flatMap_cons]; exact List.mem_append_right _ z
theorem AVRF.cut {k : Nat} (hk : k ≤ n) : ∀ {a : List (Str × AV)} {v : List (Str × V)}, (∀ q ∈ a.flatMap (fun q => q.2.box), q < k) → AVRF C ι H n a v → AVRF C ι H k a v
  | [], _, _, h => h
  | (_, a) :: as, _, hq, h => by
    obtain ⟨v, r, e, h1, h2⟩ := h
    refine ⟨v, r, e, h1.cut hk fun q z => hq q ?_, AVRF.cut hk (fun q z => hq q ?_) h2⟩
    · rw [List.flatMap_cons]; exact List.mem_append_left _ z
    · rw [List.flatMap_cons]; exact List.mem_append_right _ z
theorem AVRK.cut {k : Nat} (hk : k ≤ n) : ∀ {a : List (D × AV)} {v : List (Key × V)}, (∀ q ∈ a.flatMap (fun q => q.2.box), q < k) → AVRK C ι H n a v → AVRK C ι H k a v
  | [], _, _, h => h
  | (_, a) :: as, _, hq, h => by
    obtain ⟨q', v, r, e, h0, h1, h2⟩ := h
    refine ⟨q', v, r, e, h0, h1.cut hk fun q z => hq q ?_, AVRK.cut hk (fun q z => hq q ?_) h2⟩
    · rw [List.flatMap_cons]; exact List.mem_append_left _ z
    · rw [List.flatMap_cons]; exact List.mem_append_right _ z
theorem CellR.cut {k : Nat} (hk : k ≤ n) {a : Addr} : ∀ {c : Cell}, (∀ q ∈ c.box, q < k) → CellR C ι H n a c → CellR C ι H k a c
  | .lst xs, _, h => h
  | .lsa xs, hq, h => by
    obtain ⟨vs, h1, h2⟩ := h
    exact ⟨vs, h1, h2.cut hk hq⟩
  | .dic kvs, _, h => h
  | .dia kvs, hq, h => by
    obtain ⟨kv, h1, h2⟩ := h
    exact ⟨kv, h1, h2.cut hk hq⟩
  | .ins c fs, hq, h => by
    obtain ⟨ca, dx, fv, h0, h1, h2⟩ := h
    exact ⟨ca, dx, fv, h0, h1, h2.cut hk hq⟩
theorem take_get {α : Type} {l : List α} {k j : Nat} {x : α} (h : (l.take k)[j]? = some x) : j < k ∧ l[j]? = some x := by
  rw [List.getElem?_take] at h
  split at h
  · exact ⟨by assumption, h⟩
  · cases h
/-- what is new in the store forgotten -/
theorem Rel.cut {S : List Cell} {b k : Nat} (r : Rel C ι [] H (mS S b)) (hk : k ≤ S.length) (bx : BoxLow k S) {b' : Nat} (hb : b' ≤ k) : Rel C ι [] H (mS (S.take k) b') := by
  have hl : (S.take k).length = k := by rw [List.length_take]; omega
  refine ⟨rfl, fun i a h => by simp at h, fun i c h => ?_, fun x c h => ?_, fun x c h => ?_, fun x y c c' hx hy e => ?_, ?_⟩
  · obtain ⟨j, e, _⟩ := mS_live h
    cases e
  · obtain ⟨j, rfl, h⟩ := mS_live h
    obtain ⟨h1, h2⟩ := take_get h
    have q := r.cell (.inr j) c h2
    show CellR C ι H (S.take k).length _ c
    rw [hl]
    exact q.cut hk fun z hz => bx j c z h2 hz h1
  · obtain ⟨j, rfl, h⟩ := mS_live h
    exact r.noS (.inr j) c (take_get h).2
  · obtain ⟨j, rfl, hx⟩ := mS_live hx
    obtain ⟨j', rfl, hy⟩ := mS_live hy
    exact r.inj _ _ c c' (take_get hx).2 (take_get hy).2 e
  · show b' ≤ (S.take k).length
    rw [hl]; exact hb
theorem Rel.boxes {S : List Cell} {b : Nat} (r : Rel C ι [] H (mS S b)) : BoxLow S.length S := by
  intro j c k h hk hj
  have q := r.cell (.inr j) c h
  cases c with
  | lst xs => cases hk
  | dic xs => cases hk
  | lsa xs =>
    obtain ⟨vs, hz, h2⟩ := q
    clear h hz
    induction xs generalizing vs with
    | nil => cases hk
    | cons a as ih =>
      obtain ⟨v, r', e, h3, h4⟩ := h2
      rw [show (Cell.lsa (a :: as)).box = a.box ++ (Cell.lsa as).box from rfl] at hk
      rcases List.mem_append.mp hk with hk | hk
      · cases a with
        | b q =>
          rw [show k = q by simpa [AV.box] using hk]
          exact h3.1
        | _ => cases hk
      · exact ih hk _ h4
  | dia xs =>
    obtain ⟨vs, hz, h2⟩ := q
    clear h hz
    induction xs generalizing vs with
    | nil => cases hk
    | cons a as ih =>
      obtain ⟨q', v, r', e, _, h3, h4⟩ := h2
      rw [show (Cell.dia (a :: as)).box = a.2.box ++ (Cell.dia as).box from rfl] at hk
      rcases List.mem_append.mp hk with hk | hk
      · obtain ⟨a1, a2⟩ := a
        cases a2 with
        | b q =>
          rw [show k = q by simpa [AV.box] using hk]
          exact h3.1
        | _ => cases hk
      · exact ih hk _ h4
  | ins c xs =>
    obtain ⟨ca, dx, vs, _, hz, h2⟩ := q
    clear h hz
    induction xs generalizing vs with
    | nil => cases hk
    | cons a as ih =>
      obtain ⟨v, r', e, h3, h4⟩ := h2
      rw [show (Cell.ins c (a :: as)).box = a.2.box ++ (Cell.ins c as).box from rfl] at hk
      rcases List.mem_append.mp hk with hk | hk
      · obtain ⟨a1, a2⟩ := a
        cases a2 with
        | b q =>
          rw [show k = q by simpa [AV.box] using hk]
          exact h3.1
        | _ => cases hk
      · exact ih hk _ h4
end

section
variable {C : Com} {ι ι' : Sum Nat Nat → Addr} {H H' : Hp}
theorem Lv.of_slots {as : List AV} {k b b' : Nat} {S : List Cell} {a : Addr} (h : Lv ⟨slots k as, S, b⟩ ι a) : Lv (mS S b') ι a := by
  obtain ⟨x, c, hx, e⟩ := h
  obtain ⟨j, rfl, hx⟩ := slots_live hx
  exact ⟨.inr j, c, hx, e⟩
theorem Lv.of_mS {m : M} {b : Nat} {a : Addr} (h : Lv (mS m.S b) ι a) : Lv m ι a := by
  obtain ⟨x, c, hx, e⟩ := h
  obtain ⟨j, rfl, hx⟩ := mS_live hx
  exact ⟨.inr j, c, hx, e⟩
theorem Frs.of_slots {as : List AV} {k b b' : Nat} {S : List Cell} {a : Addr} (h : Frs ⟨slots k as, S, b⟩ ι H a) : Frs (mS S b') ι H a := by
  rcases h with h | ⟨i, c, hl, e⟩
  · exact .inl h
  · obtain ⟨j, q, _⟩ := slots_live hl
    cases q
/-- the whole def: nothing is forgotten of the store -/
theorem Ext.whole {as : List AV} {k b : Nat} {S : List Cell} {m' : M} (e : Ext ⟨slots k as, S, b⟩ ι H m' ι' H') : Ext (mS S b) ι H (mS m'.S b) ι' H' :=
  ⟨e.mono, fun a o h n => let ⟨h1, h2⟩ := e.keep a o h fun z => n z.of_slots; ⟨h1, fun z => h2 z.of_mS⟩, e.b, e.len, e.there, rfl, e.box⟩
theorem Ext.cut {as : List AV} {k b : Nat} {S : List Cell} {m' : M} (hb : b ≤ S.length) (e : Ext ⟨slots k as, S, S.length⟩ ι H m' ι' H') : Ext (mS S b) ι H (mS (m'.S.take S.length) b) ι' H' := by
  have hl : (m'.S.take S.length).length = S.length := by
    have := e.len
    rw [List.length_take]
    show min S.length m'.S.length = _
    have e2 : S.length ≤ m'.S.length := e.len
    omega
  refine ⟨e.mono, fun a o h n => ?_, e.b, by show S.length ≤ (m'.S.take S.length).length; omega, e.there, rfl, fun d hd hx => ?_⟩
  · obtain ⟨h1, h2⟩ := e.keep a o h fun z => n z.of_slots
    refine ⟨h1, fun ⟨x, c, hx, q⟩ => ?_⟩
    obtain ⟨j, rfl, hx⟩ := mS_live hx
    exact h2 ⟨.inr j, c, (take_get hx).2, q⟩
  · intro j c z h hz hj
    exact e.box d (Nat.le_trans hd hb) hx j c z (take_get h).2 hz hj
end

section
variable {C : Com} {x qual : Str} {params : Arguments} {body : List Stmt} {scope : Scope} {dvs : List V} {kws : List (Str × V)} {f : Addr} {fd : FuncData} {N ps : List Str} {k : Nat} {G : Stm}
theorem fn_core (F : FunD C.K x qual params body scope dvs kws f fd) (S : FnScope N ps scope) (hG : SSs C N scope k body G) {g : Fn}
    (hg : ∀ (Q : VK) (E : XK) (ι : Sum Nat Nat → Addr) (H : Hp) (S : List Cell) (b : Nat) (as : List AV), Rel C ι [] H (mS S b) → as.length = ps.length → FOk C Q E ι H S b (g b as S) →
      ∃ b', b' ≤ S.length ∧ ∀ σ, Rel C ι σ H ⟨slots N.length as, S, b'⟩ → OkS C (fun cls d _ H => E cls d H) { nx := fun _ H' => Q .non H', rt := Q } σ H ι ⟨slots N.length as, S, b'⟩ (G ⟨slots N.length as, S, b'⟩)) :
    FnOk C.prog C.w C.K C.mg C.base (L2.CX C.prog C.w) (k + 1) f fd ps (SpF C ps.length g) := by
  have hpl : ps.length ≤ N.length := by have := congrArg List.length S.pre; rw [List.length_take] at this; omega
  refine F.ok S (fun vs H Q E h => ?_) (fun cdv A outer s H vs Q E hr h => ?_)
  · obtain ⟨ι, b, as, St, r, ra, hs, hl, _⟩ := h
    rw [ra.length]; exact hl
  · obtain ⟨ι, b, as, St, r, ra, hs, hl, q⟩ := h
    obtain ⟨b', hb, q'⟩ := hg Q E ι H St b as r hl q
    have r0 := start_rel (N := N) r ra hs (by omega) hb
    exact ⟨_, hG.run _ (fun cls d _ H => E cls d H) ⟨⟨rfl, rfl, rfl, rfl, hr⟩, fun _ => rfl, S.nd, passes_of rfl⟩ (takes_of rfl rfl rfl rfl), ι, _, r0, q' _ r0⟩
theorem fn_T (F : FunD C.K x qual params body scope dvs kws f fd) (S : FnScope N ps scope) (hG : SSs C N scope k body G) : FnOk C.prog C.w C.K C.mg C.base (L2.CX C.prog C.w) (k + 1) f fd ps (SpF C ps.length (mkT N.length G)) := by
  refine fn_core F S hG fun Q E ι H St b as r hl q => ⟨St.length, Nat.le_refl _, fun σ r0 => ?_⟩
  have hbS : b ≤ St.length := r.low
  have bx := r.boxes
  have low : ∀ {m' : M} {ι' : Sum Nat Nat → Addr} {H' : Hp}, Ext ⟨slots N.length as, St, St.length⟩ ι H m' ι' H' → St.length ≤ m'.S.length ∧ BoxLow St.length m'.S := fun e => ⟨e.len, e.box _ (Nat.le_refl _) bx⟩
  unfold mkT at q
  cases eq : G ⟨slots N.length as, St, St.length⟩ with
  | nx m' =>
    rw [eq] at q
    intro ι' H' σ' e r'
    exact q ι' H' .non (e.cut hbS) ((r'.store (Nat.le_refl _)).cut (low e).1 (low e).2 hbS) rfl
  | ret v m' =>
    rw [eq] at q
    intro ι' H' σ' u e r' ru
    have r2 := (r'.store (Nat.le_refl _)).cut (low e).1 (low e).2 hbS
    have lv : ∀ {a : Addr}, ¬ Lv m' ι' a → ¬ Lv (mS (m'.S.take St.length) b) ι' a := fun n ⟨x, c, hx, e⟩ => by
      obtain ⟨j, rfl, hx⟩ := mS_live hx
      exact n ⟨.inr j, c, (take_get hx).2, e⟩
    have q' : FOk C Q E ι H St b (finT St v m'.S) := q
    cases v with
    | av a =>
      cases a with
      | t d => exact q' ι' H' u (e.cut hbS) r2 ru
      | b _ => exact q'.elim
      | s _ => exact q'.elim
    | own c =>
      cases c with
      | lst xs =>
        obtain ⟨a, ea, h1, h2, h3, h4⟩ := ru
        exact q' ι' H' u (e.cut hbS) r2 ⟨a, ea, h1, h2, lv h3, h4.of_slots⟩
      | dic xs =>
        obtain ⟨a, ea, h1, h2, h3, h4⟩ := ru
        exact q' ι' H' u (e.cut hbS) r2 ⟨a, ea, h1, h2, lv h3, h4.of_slots⟩
      | lsa _ => exact q'.elim
      | dia _ => exact q'.elim
      | ins _ _ => exact q'.elim
  | exc x m' =>
    rw [eq] at q
    intro ι' H' σ' cls d e r' rx
    exact q ι' H' cls d (e.cut hbS) ((r'.store (Nat.le_refl _)).cut (low e).1 (low e).2 hbS) rx
  | brk m' => rw [eq] at q; exact q.elim
  | ct m' => rw [eq] at q; exact q.elim
  | stuck => rw [eq] at q; exact q.elim
theorem fn_N (F : FunD C.K x qual params body scope dvs kws f fd) (S : FnScope N ps scope) (hG : SSs C N scope k body G) : FnOk C.prog C.w C.K C.mg C.base (L2.CX C.prog C.w) (k + 1) f fd ps (SpF C ps.length (mkN N.length G)) := by
  refine fn_core F S hG fun Q E ι H St b as r hl q => ⟨b, r.low, fun σ r0 => ?_⟩
  unfold mkN at q
  have lw : ∀ {m' : M} {ι' : Sum Nat Nat → Addr} {H' : Hp}, Ext ⟨slots N.length as, St, b⟩ ι H m' ι' H' → b ≤ m'.S.length := fun e => Nat.le_trans r.low e.len
  cases eq : G ⟨slots N.length as, St, b⟩ with
  | nx m' =>
    rw [eq] at q
    intro ι' H' σ' e r'
    exact q ι' H' .non e.whole (r'.store (lw e)) rfl
  | ret v m' =>
    rw [eq] at q
    intro ι' H' σ' u e r' ru
    refine q ι' H' u e.whole (r'.store (lw e)) ?_
    cases v with
    | av a => exact ru
    | own c =>
      obtain ⟨a, ea, h1, h2, h3, h4⟩ := ru
      exact ⟨a, ea, h1, h2, fun z => h3 z.of_mS, h4.of_slots⟩
  | exc x m' =>
    rw [eq] at q
    intro ι' H' σ' cls d e r' rx
    exact q ι' H' cls d e.whole (r'.store (lw e)) rx
  | brk m' => rw [eq] at q; exact q.elim
  | ct m' => rw [eq] at q; exact q.elim
  | stuck => rw [eq] at q; exact q.elim
end
end BL
end part_BLf

section part_BLg
set_option Elab.async false
set_option linter.all false
set_option maxRecDepth 100000
set_option maxHeartbeats 4000000
set_option autoImplicit false
/-! BLg: calls of defs, methods, classes; attributes. -/
namespace BL
open PySem PySem.Spec PyProof.Rows L2

/-- the value is told: no reference to a slot -/
def RV.isS : RV → Bool
  | .av a => a.isS
  | .own _ => false
def callAt (g : Fn) (ar : Nat) (as : List AV) (m : M) : Out RV := match as.any AV.isS || !Nat.beq as.length ar with
  | true => .stuck
  | false => match g m.base as m.S with
    | .ret v S' => match v.isS with
      | true => .stuck
      | false => .ok v { m with S := S' }
    | .exc x S' => .exc x { m with S := S' }
    | .stuck => .stuck
def callE (g : Fn) (ar : Nat) (das : List D) (Fs : Ex (List AV)) : Ex RV := fun m => (Fs m).bind fun as m' => callAt g ar (as ++ das.map AV.t) m'
def glB (sc : Scope) (x : Str) : Bool := match sc.names.lookup x with
  | some .globalImplicit => true
  | _ => false

section
variable {C : Com} {ι : Sum Nat Nat → Addr} {σ : L2.St} {H : Hp} {m : M}
/-- behind a call: the caller's state -/
def joinI (ι ι' : Sum Nat Nat → Addr) : Sum Nat Nat → Addr
  | .inl i => ι (.inl i)
  | .inr k => ι' (.inr k)
theorem notLv_store (r : Rel C ι σ H m) {i : Nat} {c : Cell} (h : live m (.inl i) = some c) : ¬ Lv (mS m.S m.base) ι (ι (.inl i)) := by
  rintro ⟨x, c', hx, e⟩
  obtain ⟨j, rfl, hx⟩ := mS_live hx
  have := r.inj (.inl i) (.inr j) c c' h hx e.symm
  cases this
theorem Rel.join {ι' : Sum Nat Nat → Addr} {H' : Hp} {S' : List Cell} (r : Rel C ι σ H m) (e : Ext (mS m.S m.base) ι H (mS S' m.base) ι' H') (r' : Rel C ι' [] H' (mS S' m.base)) : Rel C (joinI ι ι') σ H' { m with S := S' } where
  len := r.len
  slot := fun i a h => by
    obtain ⟨h0, v, h1, h2⟩ := r.slot i a h
    exact ⟨h0, v, h1, h2.mono2 (ι' := joinI ι ι') e.mono (fun k hk => e.b k hk) e.len h0⟩
  slotO := fun i c h => r.slotO i c h
  cell := fun x c h => by
    cases x with
    | inl i =>
      have hl : live m (.inl i) = some c := h
      have q := r.cell _ c hl
      obtain ⟨u, hu, _⟩ := q.there
      have k := (e.keep _ u hu (notLv_store r hl)).1
      exact q.mono2 (ι' := joinI ι ι') e.mono (fun k hk => e.b k hk) e.len (show H' (ι (.inl i)) = H (ι (.inl i)) by rw [hu]; exact k) (r.noS _ c hl)
    | inr n =>
      have q := r'.cell (.inr n) c h
      have hs := r'.noS (.inr n) c h
      exact CellR.mono2 (ι := ι') (ι' := joinI ι ι') .refl (fun _ _ => rfl) (Nat.le_refl _) rfl hs q
  noS := fun x c h => by
    cases x with
    | inl i => exact r.noS (.inl i) c h
    | inr n => exact r'.noS (.inr n) c h
  inj := fun x y c c' hx hy q => by
    cases x with
    | inl i =>
      have hl : live m (.inl i) = some c := hx
      cases y with
      | inl j => exact r.inj (.inl i) (.inl j) c c' hl hy q
      | inr n =>
        exfalso
        obtain ⟨u, hu, _⟩ := (r.cell _ c hl).there
        exact (e.keep _ u hu (notLv_store r hl)).2 ⟨.inr n, c', hy, q.symm⟩
    | inr n =>
      cases y with
      | inl j =>
        exfalso
        have hl : live m (.inl j) = some c' := hy
        obtain ⟨u, hu, _⟩ := (r.cell _ c' hl).there
        exact (e.keep _ u hu (notLv_store r hl)).2 ⟨.inr n, c, hx, q⟩
      | inr n' => exact r'.inj (.inr n) (.inr n') c c' hx hy q
  low := Nat.le_trans r.low e.len
theorem ExtE.join {ι' : Sum Nat Nat → Addr} {H' : Hp} {S' : List Cell} (r : Rel C ι σ H m) (e : Ext (mS m.S m.base) ι H (mS S' m.base) ι' H') : ExtE m ι H { m with S := S' } (joinI ι ι') H' := by
  refine ⟨⟨e.mono, fun a o h n => ?_, fun k hk => e.b k hk, e.len, e.there, rfl, e.box⟩, fun _ => rfl⟩
  obtain ⟨h1, h2⟩ := e.keep a o h fun z => n z.of_mS
  refine ⟨h1, fun ⟨x, c, hx, q⟩ => ?_⟩
  cases x with
  | inl i => exact n ⟨.inl i, c, hx, q⟩
  | inr k => exact h2 ⟨.inr k, c, hx, q⟩
theorem RR.join {ι' : Sum Nat Nat → Addr} {H' : Hp} {S' : List Cell} {rv : RV} {v : V} (r : Rel C ι σ H m) (hv : rv.isS = false) (h : RR C (mS m.S m.base) ι H ι' H' (mS S' m.base) rv v) (e : Ext (mS m.S m.base) ι H (mS S' m.base) ι' H') : RR C m ι H (joinI ι ι') H' { m with S := S' } rv v := by
  cases rv with
  | av a =>
    cases a with
    | t d => exact h
    | b k => exact h
    | s i => cases hv
  | own c =>
    obtain ⟨a, ea, h1, h2, h3, h4⟩ := h
    have hn : H a = none := by
      rcases h4 with h4 | ⟨i, c', hl, _⟩
      · exact h4
      · obtain ⟨j, q, _⟩ := mS_live hl
        cases q
    refine ⟨a, ea, CellR.mono2 (ι := ι') (ι' := joinI ι ι') .refl (fun _ _ => rfl) (Nat.le_refl _) rfl h2 h1, h2, fun ⟨x, c', hx, q⟩ => ?_, .inl hn⟩
    cases x with
    | inl i =>
      obtain ⟨u, hu, _⟩ := (r.cell (.inl i) c' hx).there
      have q' : ι (.inl i) = a := q
      rw [q', hn] at hu
      cases hu
    | inr k => exact h3 ⟨.inr k, c', hx, q⟩
end

section
variable {C : Com} {N : List Str} {sc : Scope} {k : Nat}
theorem dens_avs {H : Hp} {ι : Sum Nat Nat → Addr} {n : Nat} : ∀ {ds : List D} {vs : List V}, Dens C H ds vs → AVRs C ι H n (ds.map AV.t) vs
  | [], _, h => h
  | d :: ds, _, h => by
    obtain ⟨v, r, e, h1, h2⟩ := h
    exact ⟨v, r, e, h1, dens_avs h2⟩
theorem AVRs.append {H : Hp} {ι : Sum Nat Nat → Addr} {n : Nat} : ∀ {as bs : List AV} {vs ws : List V}, AVRs C ι H n as vs → AVRs C ι H n bs ws → AVRs C ι H n (as ++ bs) (vs ++ ws)
  | [], _, _, _, h, k => by rw [show _ = [] from h]; exact k
  | a :: as, bs, vs, ws, h, k => by
    obtain ⟨v, r, rfl, h1, h2⟩ := h
    exact ⟨v, r ++ ws, rfl, h1, AVRs.append h2 k⟩
/-- how a value of a callee is seen by the caller -/
theorem callAt_ok {W : WX} {σ : L2.St} {H : Hp} {ι : Sum Nat Nat → Addr} {m m0 : M} {ι0 : Sum Nat Nat → Addr} {H0 : Hp} {Q : VK} {g : Fn} {ar : Nat} {as : List AV} {vs : List V} (r : Rel C ι σ H m) (ra : AVRs C ι H m.S.length as vs)
    (ex : ExtE m0 ι0 H0 m ι H) (hq : OkO C W (fun ι' H' m' a v => RR C m0 ι0 H0 ι' H' m' a v) σ H ι m Q (callAt g ar as m)) :
    SpF C ar g vs H Q (fun cls d H' => W cls d σ H') := by
  unfold callAt at hq
  cases hs : (as.any AV.isS || !Nat.beq as.length ar) with
  | true => rw [hs] at hq; exact hq.elim
  | false =>
    rw [hs] at hq
    simp only [Bool.or_eq_false_iff, Bool.not_eq_false'] at hs
    refine ⟨ι, m.base, as, m.S, r.store r.low, ra, hs.1, Nat.eq_of_beq_eq_true hs.2, ?_⟩
    cases eg : g m.base as m.S with
    | ret v S' =>
      rw [eg] at hq
      have hq' : OkO C W (fun ι' H' m' a v => RR C m0 ι0 H0 ι' H' m' a v) σ H ι m Q (match v.isS with
        | true => .stuck
        | false => .ok v { m with S := S' }) := hq
      cases es : v.isS with
      | true => rw [es] at hq'; exact hq'.elim
      | false =>
        rw [es] at hq'
        intro ι' H' u e r' ru
        exact hq' _ H' u (ExtE.join r e) (r.join e r') ((RR.join r es ru e).from ex.toExt r)
    | exc x S' =>
      rw [eg] at hq
      intro ι' H' cls d e r' rx
      exact hq _ H' cls d (ExtE.join r e) (r.join e r') rx
    | stuck => rw [eg] at hq; exact hq.elim
theorem gl_of {x : Str} {X : Cx} (B : Bd C N sc k X) (h : glB sc x = true) : Gl X x := by
  unfold glB at h
  have e : X.env.kindOf x = sc.names.lookup x := by rw [← B.hsc]; rfl
  unfold Gl
  rw [e]
  split at h
  · assumption
  · cases h
section
variable {x : Str} {f : Addr} {fd : FuncData} {ps : List Str} {ds : List Value} {dvs : List V} {das : List D} {g : Fn} {j ar : Nat} {e : Expr} {es : List Expr} {Fs : Ex (List AV)} {p pos : Pos}
/-- the callee runs -/
theorem run_g {X : Cx} {W : WX} (B : Bd C N sc k X) (tk : Takes X W) (F : FnOk C.prog C.w C.K C.mg C.base (L2.CX C.prog C.w) j f fd ps (SpF C ar g)) (hj : j ≤ k) (hb : Binds C.K fd ps ds) (hd : Vals dvs ds) (hdd : ∀ H, Dens C H das dvs)
    {pins : List (Addr × Obj)} {σ : L2.St} {H : Hp} {s : Shared} {Q : VK} {us : List Value} {vs : List V} {ι ι0 : Sum Nat Nat → Addr} {m m0 : M} {H0 : Hp} {as : List AV} (I : Inv X pins σ H s) (r : Vals vs us) (rl : Rel C ι σ H m) (ra : AVRs C ι H m.S.length as vs) (ex : ExtE m0 ι0 H0 m ι H)
    (hq : OkO C W (fun ι' H' m' a v => RR C m0 ι0 H0 ι' H' m' a v) σ H ι m Q (callAt g ar (as ++ das.map AV.t) m)) : wpAny (model X.prog X.w) X.A (call (.ref f) us) (EP X pins σ Q) X.xe s := by
  have e := B.com
  subst e
  have ra2 := AVRs.append ra (dens_avs (ι := ι) (n := m.S.length) (hdd H))
  have h := callAt_ok rl ra2 ex hq
  exact run_fnSD (E := fun σ cls d H => W cls d σ H) F (B.room.mono hj) hb hd (passAt tk σ) I r h
theorem SE.call (F : FnOk C.prog C.w C.K C.mg C.base (L2.CX C.prog C.w) j f fd ps (SpF C ar g)) (hj : j ≤ k) (hg : glB sc x = true) (hm : C.mg x = some (.ref f)) (hk : PySem.W.keepIn C.K (.ref f) = true) (hb : Binds C.K fd ps ds) (hd : Vals dvs ds) (hdd : ∀ H, Dens C H das dvs)
    (ha : SAs C N sc k (e :: es) Fs) (hdb : (x == ("__debug__" : Str)) = false) (he : ∀ env : Env, starEach (e :: es) env = (false, eval e env) :: starEach es env) (hpl : ∀ env : Env, (backTo pos (starEach es env)).any (·.1) = false) :
    SE C N sc k (.Call (.Name x p) (e :: es) [] pos) (callE g ar das Fs) := by
  refine ⟨fun X W B tk => ⟨fun pins s σ H Q I ⟨ι, m, rl, q⟩ => ?_⟩⟩
  have eC := B.com
  subst eC
  refine wpAny_Call_Name_kw (ld_glob I (gl_of B hg) hm ?_ hdb)
  refine PySem.W.callWith_K (h₀ := X.base) I.ok.mod.kin hk (thn ((ha.run X W B tk).run pos pins s σ H _ I ⟨ι, m, rl, OkO.bind q fun as m1 ι1 H1 vs eq ex r1 ra q1 => (⟨ι1, m1, as, r1, ra, ex, q1⟩ : ∃ ι1 m1 as, Rel _ ι1 σ H1 m1 ∧ AVRs _ ι1 H1 m1.S.length as vs ∧ ExtE m ι H m1 ι1 H1 ∧ OkO _ W (fun ι' H' m' a v => RR _ m ι H ι' H' m' a v) σ H1 ι1 m1 Q (callAt g ar (as ++ das.map AV.t) m1))⟩) fun us s1 ⟨vs, H1, I1, r, ι1, m1, as, r1, ra, ex, q1⟩ => ⟨I1.kIn, run_g B tk F hj hb hd hdd I1 r r1 ra ex q1⟩) (he _) (hpl _)
end
end
end BL
end part_BLg

section part_BLh
set_option Elab.async false
set_option linter.all false
set_option maxRecDepth 100000
set_option maxHeartbeats 4000000
set_option autoImplicit false
/-! BLh: what is done to values: the frame of all rules. -/
namespace BL
open PySem PySem.Spec PyProof.Rows L2

/-! ### lists and tuples as operands -/
def cellL : Cell → Option (List D)
  | .lst xs => some xs
  | _ => none
def cellK : Cell → Option (List (D × D))
  | .dic xs => some xs
  | _ => none
def cellAt (m : M) : AV → Option Cell
  | .t _ => none
  | .b n => m.S[n]?
  | .s i => match m.σ[i]? with
    | some (some (SV.own c)) => some c
    | some (some (SV.lock c)) => some c
    | _ => none
def lstOf (m : M) : AV → Option (List D)
  | .t (.lst xs) => some xs
  | .t _ => none
  | a => (cellAt m a).bind cellL
def dicOf (m : M) : AV → Option (List (D × D))
  | .t (.dic xs) => some xs
  | .t _ => none
  | a => (cellAt m a).bind cellK
def seqOf (m : M) : AV → Option (List D)
  | .t (.tup xs) => some xs
  | .t (.kls xs) => some xs
  | a => lstOf m a

section
variable {C : Com} {W : WX} {σ : L2.St} {H : Hp} {ι : Sum Nat Nat → Addr} {m : M}
theorem cell_at {a : AV} {v : V} {c : Cell} (r : Rel C ι σ H m) (h : AVR C ι H m.S.length a v) (e : cellAt m a = some c) : ∃ x, live m x = some c ∧ v = .ref (ι x) := by
  cases a with
  | t d => cases e
  | b n => exact ⟨.inr n, e, h.2⟩
  | s i =>
    refine ⟨.inl i, ?_, h⟩
    unfold cellAt at e
    unfold live
    exact e
theorem lst_of {a : AV} {v : V} {xs : List D} (r : Rel C ι σ H m) (h : AVR C ι H m.S.length a v) (e : lstOf m a = some xs) : ∃ p vs, v = .ref p ∧ Rd H p (.lst vs) ∧ Dens C H xs vs := by
  have go : ∀ {a : AV}, AVR C ι H m.S.length a v → (cellAt m a).bind cellL = some xs → ∃ p vs, v = .ref p ∧ Rd H p (.lst vs) ∧ Dens C H xs vs := fun {a} h e => by
    obtain ⟨c, hc, e2⟩ := Option.bind_eq_some_iff.mp e
    obtain ⟨x, hl, ev⟩ := cell_at r h hc
    cases c with
    | lst ys =>
      cases e2
      obtain ⟨vs, h1, h2⟩ := r.cell x _ hl
      exact ⟨_, vs, ev, .inl h1, h2⟩
    | _ => cases e2
  cases a with
  | t d =>
    cases d with
    | lst ys =>
      cases e
      obtain ⟨p, o, vs, ev, h1, h2⟩ := h
      exact ⟨p, vs, ev, .inr ⟨o, h1⟩, h2⟩
    | _ => cases e
  | b n => exact go h e
  | s i => exact go h e
theorem dic_of {a : AV} {v : V} {xs : List (D × D)} (r : Rel C ι σ H m) (h : AVR C ι H m.S.length a v) (e : dicOf m a = some xs) :
    ∃ p kv, v = .ref p ∧ Rd H p (.dK kv) ∧ DenK C H xs kv := by
  have go : ∀ {a : AV}, AVR C ι H m.S.length a v → (cellAt m a).bind cellK = some xs → ∃ p kv, v = .ref p ∧ Rd H p (.dK kv) ∧ DenK C H xs kv := fun {a} h e => by
    obtain ⟨c, hc, e2⟩ := Option.bind_eq_some_iff.mp e
    obtain ⟨x, hl, ev⟩ := cell_at r h hc
    cases c with
    | dic ys =>
      cases e2
      obtain ⟨kv, h1, h2⟩ := r.cell x _ hl
      exact ⟨_, kv, ev, .inl h1, h2⟩
    | _ => cases e2
  cases a with
  | t d =>
    cases d with
    | dic ys =>
      cases e
      obtain ⟨p, o, kv, ev, h1, h2⟩ := h
      exact ⟨p, kv, ev, .inr ⟨o, h1⟩, h2⟩
    | _ => cases e
  | b n => exact go h e
  | s i => exact go h e
theorem seq_of {a : AV} {v : V} {xs : List D} (r : Rel C ι σ H m) (h : AVR C ι H m.S.length a v) (e : seqOf m a = some xs) : ∃ p vs, v = .ref p ∧ (SqL C.K H p vs ∨ SqT C.K H p vs) ∧ Dens C H xs vs := by
  cases a with
  | t d =>
    cases d with
    | tup ys =>
      cases e
      obtain ⟨p, vs, ev, h1, h2⟩ := h
      exact ⟨p, vs, ev, .inr (SqT.of h1), h2⟩
    | kls ys =>
      cases e
      obtain ⟨p, vs, ev, h1, h2⟩ := h
      refine ⟨p, vs, ev, .inl ?_, h2⟩
      rcases h1 with ⟨o, h1⟩ | h1
      · exact .inl (.inr ⟨o, h1⟩)
      · exact .inr h1
    | lst ys =>
      obtain ⟨p, vs, ev, h1, h2⟩ := lst_of r h e
      exact ⟨p, vs, ev, .inl (.inl h1), h2⟩
    | _ => cases e
  | b n =>
    obtain ⟨p, vs, ev, h1, h2⟩ := lst_of r h e
    exact ⟨p, vs, ev, .inl (.inl h1), h2⟩
  | s i =>
    obtain ⟨p, vs, ev, h1, h2⟩ := lst_of r h e
    exact ⟨p, vs, ev, .inl (.inl h1), h2⟩

/-! ### results -/
variable {m0 : M} {ι0 : Sum Nat Nat → Addr} {H0 : Hp} {Q : VK}
/-- the outcome of an operation, from the start of its expression -/
abbrev OkR (C : Com) (W : WX) (σ : L2.St) (H : Hp) (ι : Sum Nat Nat → Addr) (m m0 : M) (ι0 : Sum Nat Nat → Addr) (H0 : Hp) (Q : VK) (o : Out RV) : Prop := OkO C W (fun ι' H' m' a v => RR C m0 ι0 H0 ι' H' m' a v) σ H ι m Q o
theorem okT {d : D} {v : V} (r : Rel C ι σ H m) (h : OkR C W σ H ι m m0 ι0 H0 Q (.ok (.av (.t d)) m)) (hd : Den C H d v) : Q v H := h ι H v .refl r hd
theorem okA {a : AV} {v : V} (r : Rel C ι σ H m) (h : OkR C W σ H ι m m0 ι0 H0 Q (.ok (.av a) m)) (hd : AVR C ι H m.S.length a v) : Q v H := h ι H v .refl r hd
theorem newL {ds : List D} {zs : List V} (r : Rel C ι σ H m) (ex : ExtE m0 ι0 H0 m ι H) (h : OkR C W σ H ι m m0 ι0 H0 Q (.ok (.own (.lst ds)) m)) (hd : Dens C H ds zs) : ∀ p, H p = none → Q (.ref p) (upd H p (.lst zs)) := fun p hp =>
  h ι _ _ (ExtE.new hp) (r.new hp) ⟨p, rfl, ⟨zs, upd_same, Dens.mono (Mono.new hp) _ _ hd⟩, rfl, r.notLv hp, .inl (ex.there p hp)⟩
theorem newT {ds : List D} {zs : List V} (r : Rel C ι σ H m) (h : OkR C W σ H ι m m0 ι0 H0 Q (.ok (.av (.t (.tup ds))) m)) (hd : Dens C H ds zs) : ∀ p, H p = none → Q (.ref p) (upd H p (.tup zs)) := fun p hp =>
  h ι _ _ (ExtE.new hp) (r.new hp) ⟨p, zs, rfl, upd_same, Dens.mono (Mono.new hp) _ _ hd⟩
theorem newK {ds : List (D × D)} {zs : List (Key × V)} (r : Rel C ι σ H m) (ex : ExtE m0 ι0 H0 m ι H) (h : OkR C W σ H ι m m0 ι0 H0 Q (.ok (.own (.dic ds)) m)) (hd : DenK C H ds zs) : ∀ p, H p = none → Q (.ref p) (upd H p (.dK zs)) := fun p hp =>
  h ι _ _ (ExtE.new hp) (r.new hp) ⟨p, rfl, ⟨zs, upd_same, DenK.mono (Mono.new hp) _ _ hd⟩, rfl, r.notLv hp, .inl (ex.there p hp)⟩
end

/-! ### frames -/
section
variable (C : Com)
/-- f does to arguments what r asks -/
structure ImpL (f : List AV → M → Out RV) (r : List V → Hp → VK → Prop) : Prop where
  ok : ∀ {W : WX} {σ : L2.St} {H : Hp} {ι : Sum Nat Nat → Addr} {m m0 : M} {ι0 : Sum Nat Nat → Addr} {H0 : Hp} {as : List AV} {vs : List V} {Q : VK},
  Rel C ι σ H m → AVRs C ι H m.S.length as vs → ExtE m0 ι0 H0 m ι H → OkR C W σ H ι m m0 ι0 H0 Q (f as m) → r vs H Q
structure Imp1 (f : AV → M → Out RV) (r : V → Hp → VK → Prop) : Prop where
  ok : ∀ {W : WX} {σ : L2.St} {H : Hp} {ι : Sum Nat Nat → Addr} {m m0 : M} {ι0 : Sum Nat Nat → Addr} {H0 : Hp} {a : AV} {v : V} {Q : VK},
  Rel C ι σ H m → AVR C ι H m.S.length a v → ExtE m0 ι0 H0 m ι H → OkR C W σ H ι m m0 ι0 H0 Q (f a m) → r v H Q
structure Imp2 (f : AV → AV → M → Out RV) (r : V → V → Hp → VK → Prop) : Prop where
  ok : ∀ {W : WX} {σ : L2.St} {H : Hp} {ι : Sum Nat Nat → Addr} {m m0 : M} {ι0 : Sum Nat Nat → Addr} {H0 : Hp} {a b : AV} {v u : V} {Q : VK},
  Rel C ι σ H m → AVR C ι H m.S.length a v → AVR C ι H m.S.length b u → ExtE m0 ι0 H0 m ι H → OkR C W σ H ι m m0 ι0 H0 Q (f a b m) → r v u H Q
/-- a method: the receiver, the arguments -/
structure ImpM (f : AV → List AV → M → Out RV) (r : V → List V → Hp → VK → Prop) : Prop where
  ok : ∀ {W : WX} {σ : L2.St} {H : Hp} {ι : Sum Nat Nat → Addr} {m m0 : M} {ι0 : Sum Nat Nat → Addr} {H0 : Hp} {a : AV} {v : V} {as : List AV} {vs : List V} {Q : VK},
  Rel C ι σ H m → AVR C ι H m.S.length a v → AVRs C ι H m.S.length as vs → ExtE m0 ι0 H0 m ι H → OkR C W σ H ι m m0 ι0 H0 Q (f a as m) → r v vs H Q
end
def e1 (f : AV → M → Out RV) (F : Ex AV) : Ex RV := fun m => (F m).bind f
def e2 (f : AV → AV → M → Out RV) (F G : Ex AV) : Ex RV := fun m => (F m).bind fun a m' => (G m').bind fun b m'' => f a b m''
def eL (f : List AV → M → Out RV) (Fs : Ex (List AV)) : Ex RV := fun m => (Fs m).bind f
def eM (f : AV → List AV → M → Out RV) (F : Ex AV) (Fs : Ex (List AV)) : Ex RV := fun m => (F m).bind fun a m' => (Fs m').bind fun as m'' => f a as m''

section
variable {C : Com} {N : List Str} {sc : Scope} {k : Nat} {e : Expr} {pos p : Pos}
theorem e2_core {X : Cx} {W : WX} {F G : Ex AV} {f : AV → AV → M → Out RV} {r : R2} (hf : Imp2 C f r) {σ : L2.St} {H : Hp} {Q : VK} (h : tG C W RR (e2 f F G) σ H Q) : tOp r (tG C W RA F) (tG C W RA G) σ H Q := by
  obtain ⟨ι, m, rl, q⟩ := h
  refine ⟨ι, m, rl, ?_⟩
  refine OkO.bind q fun a m1 ι1 H1 x e1 ex1 r1 rx q1 => ?_
  refine ⟨ι1, m1, r1, ?_⟩
  refine OkO.bind q1 fun b m2 ι2 H2 y e2 ex2 r2 ry q2 => ?_
  exact hf.ok r2 (rx.ext ex2) ry (ex1.trans ex2) q2
theorem SE.op {a b : Expr} {F G : Ex AV} {f : AV → AV → M → Out RV} {op : Operator} {r : R2} (ha : SA C N sc k a F) (hb : SA C N sc k b G) (ho : ∀ X, Bd C N sc k X → OpR X (binaryOp op) r) (hf : Imp2 C f r) : SE C N sc k (.BinOp a op b pos) (e2 f F G) :=
  ⟨fun X W B tk => pe_imp (pe_op (ho X B) (ha.run X W B tk) (hb.run X W B tk)) fun σ H Q h => e2_core (X := X) hf h⟩
theorem SE.cmp {a b : Expr} {F G : Ex AV} {f : AV → AV → M → Out RV} {op : CmpOp} {r : R2} (ha : SA C N sc k a F) (hb : SA C N sc k b G) (ho : ∀ X, Bd C N sc k X → OpR X (compareOp op) r) (hf : Imp2 C f r) (hm : behindInMarks op b = false) : SE C N sc k (.Compare a [op] [b] pos) (e2 f F G) :=
  ⟨fun X W B tk => pe_imp (pe_cmpR (ho X B) (ha.run X W B tk) (hb.run X W B tk) hm) fun σ H Q h => e2_core (X := X) hf h⟩
theorem SE.ix {a b : Expr} {F G : Ex AV} {f : AV → AV → M → Out RV} {r : R2} (ha : SA C N sc k a F) (hb : SA C N sc k b G) (ho : ∀ X, Bd C N sc k X → IxR X r) (hf : Imp2 C f r) (hs : PlainIx b) : SE C N sc k (.Subscript a b pos) (e2 f F G) :=
  ⟨fun X W B tk => pe_imp (pe_ix (ho X B) (ha.run X W B tk) (hb.run X W B tk) hs) fun σ H Q h => e2_core (X := X) hf h⟩
/-- a comparison's outcome as a test -/
def boolR (F : Ex RV) : Ex Bool := fun m => (F m).bind fun v m' => match v with
  | .av (.t (.bl b)) => .ok b m'
  | _ => .stuck
theorem tbR_core {W : WX} {F : Ex RV} {σ : L2.St} {H : Hp} {Q : Bool → Hp → Prop} (h : BL.tB C W (boolR F) σ H Q) : tG C W RR F σ H fun x H' => ∃ k, x = .bl k ∧ Q k H' := by
  obtain ⟨ι, m, rl, q⟩ := h
  refine ⟨ι, m, rl, ?_⟩
  refine OkO.bind q fun u m1 ι1 H1 x e1 ex1 r1 rx q1 => ?_
  cases u with
  | av a =>
    cases a with
    | t d =>
      cases d with
      | bl b => exact ⟨b, rx, q1 ι1 H1 b .refl r1 rfl⟩
      | _ => exact q1.elim
    | _ => exact q1.elim
  | own c => exact q1.elim
theorem SB.cmp {a b : Expr} {F G : Ex AV} {f : AV → AV → M → Out RV} {op : CmpOp} {r : R2} (ha : SA C N sc k a F) (hb : SA C N sc k b G) (ho : ∀ X, Bd C N sc k X → OpR X (compareOp op) r) (hf : Imp2 C f r) (hm : behindInMarks op b = false) : SB C N sc k (.Compare a [op] [b] pos) (boolR (e2 f F G)) :=
  ⟨fun X W B tk => pt_imp (pt_cmpR (ho X B) (ha.run X W B tk) (hb.run X W B tk) hm) fun σ H Q h => e2_core (X := X) hf (tbR_core h)⟩
theorem SB.ofE {F : Ex RV} (h : SE C N sc k e F) (he : ∀ (env : Env) (whole : Sem Value), isTrue e env whole = (do let v ← whole; standAt e.pos; holding [v] (truthy v))) : SB C N sc k e (boolR F) :=
  ⟨fun X W B tk => pt_imp (pt_val (h.run X W B tk) (he X.env)) fun σ H Q q => tbR_core q⟩
/-- what comes is a value -/
def avE (F : Ex RV) : Ex AV := frzE F
section
variable {x : Str} {id T : String} {r : List V → Hp → VK → Prop} {f : List AV → M → Out RV} {es : List Expr} {Fs : Ex (List AV)}
theorem SE.callB (hc : ∀ X, Bd C N sc k X → CallR X (.builtin id) r) (hg : glB sc x = true) (hm : C.mg x = none) (hv : bootBuiltins x = some (.builtin id)) (ha : SAs C N sc k (e :: es) Fs) (hf : ImpL C f r) (hn : x ≠ "__name__") (hdb : (x == ("__debug__" : Str)) = false)
    (he : ∀ env : Env, starEach (e :: es) env = (false, eval e env) :: starEach es env) (hpl : ∀ env : Env, (backTo pos (starEach es env)).any (·.1) = false) : SE C N sc k (.Call (.Name x p) (e :: es) [] pos) (eL f Fs) := by
  refine ⟨fun X W B tk => ?_⟩
  have hmX : X.mg x = none := by have := B.com; subst this; exact hm
  refine pe_imp (pe_callB (hc X B) (gl_of B hg) hmX hv (ha.run X W B tk) hn hdb (he _) (hpl _)) fun σ H Q ⟨ι, m, rl, q⟩ => ⟨ι, m, rl, ?_⟩
  exact OkO.bind q fun as m1 ι1 H1 vs eq ex r1 ra q1 => hf.ok r1 ra ex q1
theorem SE.callTy (hc : ∀ X, Bd C N sc k X → CallR X (.type T) r) (hg : glB sc x = true) (hm : C.mg x = none) (hv : bootBuiltins x = some (.type T)) (ha : SAs C N sc k (e :: es) Fs) (hf : ImpL C f r) (hn : x ≠ "__name__") (hdb : (x == ("__debug__" : Str)) = false)
    (he : ∀ env : Env, starEach (e :: es) env = (false, eval e env) :: starEach es env) (hpl : ∀ env : Env, (backTo pos (starEach es env)).any (·.1) = false) : SE C N sc k (.Call (.Name x p) (e :: es) [] pos) (eL f Fs) := by
  refine ⟨fun X W B tk => ?_⟩
  have hmX : X.mg x = none := by have := B.com; subst this; exact hm
  refine pe_imp (pe_callTy (hc X B) (gl_of B hg) hmX hv (ha.run X W B tk) hn hdb (he _) (hpl _)) fun σ H Q ⟨ι, m, rl, q⟩ => ⟨ι, m, rl, ?_⟩
  exact OkO.bind q fun as m1 ι1 H1 vs eq ex r1 ra q1 => hf.ok r1 ra ex q1
end
end
end BL
end part_BLh

section part_BLi
set_option Elab.async false
set_option linter.all false
set_option maxRecDepth 100000
set_option maxHeartbeats 4000000
set_option autoImplicit false
/-! BLi: numbers, texts, lists, tuples: what is read. -/
namespace BL
open PySem PySem.Spec PyProof.Rows L2

def okD (d : D) : M → Out RV := fun m => .ok (.av (.t d)) m
def okD? (d : Option D) : M → Out RV := fun m => match d with
  | some d => .ok (.av (.t d)) m
  | none => .stuck
/-- an operation of two trees -/
def d2 (f : D → D → Option D) : AV → AV → M → Out RV := fun a b m => match a, b with
  | .t d, .t e => okD? (f d e) m
  | _, _ => .stuck
theorem d2_imp {C : Com} {f : D → D → Option D} {r : R2} (hf : ∀ (H : Hp) (d e res : D) (x y : V) (Q : VK), f d e = some res → Den C H d x → Den C H e y → (∀ z, Den C H res z → Q z H) → r x y H Q) : Imp2 C (d2 f) r := by
  constructor
  intro W σ H ι m m0 ι0 H0 a b v u Q rl ha hb ex q
  cases a with
  | t d =>
    cases b with
    | t e =>
      have q' : OkR C W σ H ι m m0 ι0 H0 Q (okD? (f d e) m) := q
      cases ef : f d e with
      | none => rw [ef] at q'; exact q'.elim
      | some res =>
        rw [ef] at q'
        exact hf H d e res v u Q ef ha hb fun z hz => okT rl q' hz
    | _ => exact q.elim
  | _ => exact q.elim
/-! ### ints -/
def addD : D → D → Option D
  | .int i, .int j => some (.int (i + j))
  | _, _ => none
def subD : D → D → Option D
  | .int i, .int j => some (.int (i - j))
  | _, _ => none
def smallI (i : Int) : Bool := decide (-(2 ^ 64) < i) && decide (i < 2 ^ 64)
def mulD : D → D → Option D
  | .int i, .int j => match smallI i || smallI j with
    | true => some (.int (i * j))
    | false => none
  | _, _ => none
def divD : D → D → Option D
  | .int i, .int j => match decide (0 < j) && decide (j < 1073741824) with
    | true => some (.int (i / j))
    | false => none
  | _, _ => none
def modD : D → D → Option D
  | .int i, .int j => match decide (0 < j) with
    | true => some (.int (i % j))
    | false => none
  | _, _ => none
def powD : D → D → Option D
  | .int i, .int j => match decide (0 ≤ j) && decide (j ≤ 1000) && smallI i with
    | true => some (.int (i ^ j.toNat))
    | false => none
  | _, _ => none
section
variable {C : Com}
theorem imp_add : Imp2 C (d2 addD) (rI0 fun i j => .int (i + j)) := d2_imp fun H d e res x y Q ef hx hy q => by
  unfold addD at ef
  split at ef
  · rename_i i j; cases ef; exact ⟨i, j, hx, hy, q _ rfl⟩
  · cases ef
theorem imp_sub : Imp2 C (d2 subD) (rI0 fun i j => .int (i - j)) := d2_imp fun H d e res x y Q ef hx hy q => by
  unfold subD at ef
  split at ef
  · rename_i i j; cases ef; exact ⟨i, j, hx, hy, q _ rfl⟩
  · cases ef
theorem smallI_ok {i : Int} (h : smallI i = true) : -(2 ^ 64) < i ∧ i < 2 ^ 64 := by
  unfold smallI at h
  simp only [Bool.and_eq_true, decide_eq_true_eq] at h
  exact h
theorem imp_mul : Imp2 C (d2 mulD) (rI CMul fun i j => .int (i * j)) := d2_imp fun H d e res x y Q ef hx hy q => by
  unfold mulD at ef
  split at ef
  case h_2 => cases ef
  case h_1 i j =>
    split at ef
    case h_2 => cases ef
    rename_i h
    cases ef
    refine ⟨i, j, hx, hy, ?_, q _ rfl⟩
    rcases Bool.or_eq_true_iff.mp h with h | h
    · exact .inl (smallI_ok h)
    · exact .inr (smallI_ok h)
theorem imp_div : Imp2 C (d2 divD) (rI CDiv fun i j => .int (i / j)) := d2_imp fun H d e res x y Q ef hx hy q => by
  unfold divD at ef
  split at ef
  case h_2 => cases ef
  case h_1 i j =>
    split at ef
    case h_2 => cases ef
    rename_i h
    cases ef
    simp only [Bool.and_eq_true, decide_eq_true_eq] at h
    exact ⟨i, j, hx, hy, h, q _ rfl⟩
theorem imp_mod : Imp2 C (d2 modD) (rI (fun _ j => 0 < j) fun i j => .int (i % j)) := d2_imp fun H d e res x y Q ef hx hy q => by
  unfold modD at ef
  split at ef
  case h_2 => cases ef
  case h_1 i j =>
    split at ef
    case h_2 => cases ef
    rename_i h
    cases ef
    exact ⟨i, j, hx, hy, of_decide_eq_true h, q _ rfl⟩
theorem imp_pow : Imp2 C (d2 powD) (rI CPow fun i j => .int (i ^ j.toNat)) := d2_imp fun H d e res x y Q ef hx hy q => by
  unfold powD at ef
  split at ef
  case h_2 => cases ef
  case h_1 i j =>
    split at ef
    case h_2 => cases ef
    rename_i h
    cases ef
    simp only [Bool.and_eq_true, decide_eq_true_eq] at h
    obtain ⟨⟨h1, h2⟩, h3⟩ := h
    have h4 := smallI_ok h3
    exact ⟨i, j, hx, hy, ⟨h1, by omega, by omega⟩, q _ rfl⟩
/-! ### comparisons of ints -/
def cmpD (p : Int → Int → Bool) : D → D → Option D
  | .int i, .int j => some (.bl (p i j))
  | _, _ => none
theorem imp_cmp (p : Int → Int → Bool) : Imp2 C (d2 (cmpD p)) (rI0 fun i j => .bl (p i j)) := d2_imp fun H d e res x y Q ef hx hy q => by
  unfold cmpD at ef
  split at ef
  · rename_i i j; cases ef; exact ⟨i, j, hx, hy, q _ rfl⟩
  · cases ef
abbrev ltD := cmpD fun i j => decide (i < j)
abbrev leD := cmpD fun i j => decide (i ≤ j)
abbrev gtD := cmpD fun i j => decide (j < i)
abbrev geD := cmpD fun i j => decide (j ≤ i)
/-! ### is None -/
def isNonD : D → Bool
  | .non => true
  | _ => false
def isND : D → D → Option D
  | d, .non => some (.bl (isNonD d))
  | _, _ => none
def notND : D → D → Option D
  | d, .non => some (.bl (!isNonD d))
  | _, _ => none
theorem isNon_den {H : Hp} : ∀ {d : D} {x : V}, Den C H d x → decide (x = .non) = isNonD d
  | .non, _, h => by rw [show _ = V.non from h]; rfl
  | .bl _, _, h => by rw [show _ = V.bl _ from h]; rfl
  | .int _, _, h => by rw [show _ = V.int _ from h]; rfl
  | .str _, _, h => by rw [show _ = V.str _ from h]; rfl
  | .tup _, _, h => by obtain ⟨a, vs, rfl, _⟩ := h; rfl
  | .lst _, _, h => by obtain ⟨a, o, vs, rfl, _⟩ := h; rfl
  | .dic _, _, h => by obtain ⟨a, o, vs, rfl, _⟩ := h; rfl
  | .kls _, _, h => by obtain ⟨a, vs, rfl, _⟩ := h; rfl
  | .ins _ _, _, h => by obtain ⟨a, o, ca, dx, fv, rfl, _⟩ := h; rfl
theorem imp_isN : Imp2 C (d2 isND) (fun x y H Q => y = .non ∧ Q (.bl (decide (x = .non))) H) := d2_imp fun H d e res x y Q ef hx hy q => by
  unfold isND at ef
  split at ef
  case h_2 => cases ef
  cases ef
  refine ⟨hy, q _ ?_⟩
  rw [isNon_den hx]; rfl
theorem imp_notN : Imp2 C (d2 notND) (fun x y H Q => y = .non ∧ Q (.bl (!decide (x = .non))) H) := d2_imp fun H d e res x y Q ef hx hy q => by
  unfold notND at ef
  split at ef
  case h_2 => cases ef
  cases ef
  refine ⟨hy, q _ ?_⟩
  rw [isNon_den hx]; rfl
/-! ### texts -/
def lim : Nat := 1000000
theorem lim_line {n : Nat} (h : Nat.blt n lim = true) : n < sizeLine := by
  have h1 : n < lim := Nat.le_of_ble_eq_true h
  rw [sizeLine_eq]
  unfold lim at h1
  omega
def catD : D → D → Option D
  | .str x, .str y => match Nat.blt (x.length + y.length) lim with
    | true => some (.str (x ++ y))
    | false => none
  | _, _ => none
theorem mkS_len (x : List Nat) : (mkS x).length = x.length := by
  show x.toArray.size = _
  simp
theorem mkS_app (x y : List Nat) : mkS x ++ mkS y = mkS (x ++ y) := by
  show (⟨x.toArray ++ y.toArray⟩ : Str) = _
  simp [mkS]
theorem imp_cat : Imp2 C (d2 catD) (fun x y H Q => ∃ i j, x = .str i ∧ y = .str j ∧ i.length + j.length ≤ sizeLine ∧ Q (.str (i ++ j)) H) := d2_imp fun H d e res x y Q ef hx hy q => by
  unfold catD at ef
  split at ef
  case h_2 => cases ef
  case h_1 i j =>
    split at ef
    case h_2 => cases ef
    rename_i h
    cases ef
    refine ⟨mkS i, mkS j, hx, hy, ?_, q _ ?_⟩
    · rw [mkS_len, mkS_len]; exact Nat.le_of_lt (lim_line h)
    · rw [mkS_app]; rfl
/-- one sign in a text -/
def inSignD : D → D → Option D
  | .str [c], .str z => some (.bl (decide (c ∈ z)))
  | _, _ => none
theorem imp_inSign : Imp2 C (d2 inSignD) (fun x y H Q => ∃ (c : Nat) (z : Str), x = .str ⟨#[c]⟩ ∧ y = .str z ∧ Q (.bl (decide (c ∈ z.cps.toList))) H) := d2_imp fun H d e res x y Q ef hx hy q => by
  unfold inSignD at ef
  split at ef
  · rename_i c z
    cases ef
    exact ⟨c, mkS z, hx, hy, q _ rfl⟩
  · cases ef
def notInSignD : D → D → Option D
  | .str [c], .str z => some (.bl (!decide (c ∈ z)))
  | _, _ => none
theorem imp_notInSign : Imp2 C (d2 notInSignD) (fun x y H Q => ∃ (c : Nat) (z : Str), x = .str ⟨#[c]⟩ ∧ y = .str z ∧ Q (.bl (!decide (c ∈ z.cps.toList))) H) := d2_imp fun H d e res x y Q ef hx hy q => by
  unfold notInSignD at ef
  split at ef
  · rename_i c z
    cases ef
    exact ⟨c, mkS z, hx, hy, q _ rfl⟩
  · cases ef
/-! ### items -/
def atD (xs : List D) (i : Int) : Option D := atI xs i
theorem atI_dens {H : Hp} {xs : List D} {vs : List V} {i : Int} {d : D} (h : Dens C H xs vs) (e : atI xs i = some d) : ∃ v, atI vs i = some v ∧ Den C H d v := by
  unfold atI at e ⊢
  obtain ⟨j, h1, h2⟩ := Option.bind_eq_some_iff.mp e
  obtain ⟨v, h3, h4⟩ := h.get h2
  exact ⟨v, by rw [h.length, h1]; exact h3, h4⟩
def ixF : AV → AV → M → Out RV := fun a b m => match b with
  | .t (.int i) => match a with
    | .t (.str x) => match Nat.blt x.length lim with
      | true => okD? ((atI x i).map fun c => .str [c]) m
      | false => .stuck
    | a => match seqOf m a with
      | some xs => okD? (atI xs i) m
      | none => .stuck
  | _ => .stuck
theorem imp_ix : Imp2 C ixF (rIx C.K) := by
  constructor
  intro W σ H ι m m0 ι0 H0 a b v u Q rl ha hb ex q
  have go : ∀ (i : Int) (a : AV), AVR C ι H m.S.length a v → u = .int i → OkR C W σ H ι m m0 ι0 H0 Q (match seqOf m a with
      | some xs => okD? (atI xs i) m
      | none => .stuck) → rIx C.K v u H Q := fun i a ha hu q => by
    cases es : seqOf m a with
    | none => rw [es] at q; exact q.elim
    | some xs =>
      rw [es] at q
      cases ed : atI xs i with
      | none =>
        have q' : OkR C W σ H ι m m0 ι0 H0 Q (okD? (atI xs i) m) := q
        rw [ed] at q'; exact q'.elim
      | some d =>
        have q' : OkR C W σ H ι m m0 ι0 H0 Q (okD? (atI xs i) m) := q
        rw [ed] at q'
        obtain ⟨p, vs, rfl, h1, h2⟩ := seq_of rl ha es
        obtain ⟨w, h3, h4⟩ := atI_dens h2 ed
        have fin := okT rl q' h4
        rcases h1 with h1 | h1
        · exact .inl ⟨p, vs, i, w, rfl, hu, h1, h3, fin⟩
        · exact .inr (.inl ⟨p, vs, i, w, rfl, hu, h1, h3, fin⟩)
  cases b with
  | t e =>
    cases e with
    | int i =>
      have hu : u = .int i := hb
      cases a with
      | t d =>
        cases d with
        | str x =>
          have q' : OkR C W σ H ι m m0 ι0 H0 Q (match Nat.blt x.length lim with
            | true => okD? ((atI x i).map fun c => .str [c]) m
            | false => .stuck) := q
          cases hl : Nat.blt x.length lim with
          | false => rw [hl] at q'; exact q'.elim
          | true =>
            rw [hl] at q'
            cases ed : atI x i with
            | none =>
              have q2 : OkR C W σ H ι m m0 ι0 H0 Q (okD? ((atI x i).map fun c => D.str [c]) m) := q'
              rw [ed] at q2; exact q2.elim
            | some c =>
              have q2 : OkR C W σ H ι m m0 ι0 H0 Q (okD? ((atI x i).map fun c => D.str [c]) m) := q'
              rw [ed] at q2
              refine .inr (.inr ⟨mkS x, i, c, ha, hu, ?_, by simpa [mkS] using ed, okT rl q2 rfl⟩)
              rw [mkS_len]; exact Nat.le_of_lt (lim_line hl)
        | _ => exact go i _ ha hu q
      | _ => exact go i _ ha hu q
    | _ => exact q.elim
  | _ => exact q.elim
/-! ### slices -/
def cutL {α : Type} (xs : List α) (lo hi : Option Int) : List α := (xs.drop (HT.sIx xs.length 0 lo)).take (HT.sIx xs.length xs.length hi - HT.sIx xs.length 0 lo)
def slF (lo hi : Option Int) : AV → M → Out RV := fun a m => match a with
  | .t (.str x) => match Nat.blt x.length lim with
    | true => okD (.str (cutL x lo hi)) m
    | false => .stuck
  | .t (.tup xs) => okD (.tup (cutL xs lo hi)) m
  | .t (.kls xs) => .ok (.own (.lst (cutL xs lo hi))) m
  | a => match lstOf m a with
    | some xs => .ok (.own (.lst (cutL xs lo hi))) m
    | none => .stuck
end
end BL
end part_BLi

section part_BLj
set_option Elab.async false
set_option linter.all false
set_option maxRecDepth 100000
set_option maxHeartbeats 4000000
set_option autoImplicit false
/-! BLj: slices, displays, concatenation, len, list(), tuple(), sum, all, any. -/
namespace BL
open PySem PySem.Spec PyProof.Rows L2

/-! ### slices -/
def noPart : Ex (Option Int) := fun m => .ok none m
def intPart (F : Ex AV) : Ex (Option Int) := fun m => (F m).bind fun a m' => match a with
  | .t (.int i) => .ok (some i) m'
  | _ => .stuck
def tP (C : Com) (W : WX) (F : Ex (Option Int)) : TO := fun σ H Q => ∃ ι m, Rel C ι σ H m ∧ OkO C W (fun _ _ _ a v => a = v) σ H ι m Q (F m)
theorem po_imp {X : Cx} {e : Option Expr} {t t' : TO} (h : PO X e t) (i : ∀ σ H Q, t' σ H Q → t σ H Q) : PO X e t' := ⟨fun pins s σ H Q I q => h.run pins s σ H Q I (i σ H Q q)⟩
structure SP (C : Com) (N : List Str) (sc : Scope) (k : Nat) (e : Option Expr) (F : Ex (Option Int)) : Prop where
  run : ∀ X W, Bd C N sc k X → Takes X W → PO X e (tP C W F)
/-- f by the two bounds -/
def eS (f : Option Int → Option Int → AV → M → Out RV) (F : Ex AV) (L U : Ex (Option Int)) : Ex RV := fun m => (F m).bind fun a m1 => (L m1).bind fun lo m2 => (U m2).bind fun hi m3 => f lo hi a m3
structure ImpS (C : Com) (f : Option Int → Option Int → AV → M → Out RV) (r : V → Option Int → Option Int → Hp → VK → Prop) : Prop where
  ok : ∀ {W : WX} {σ : L2.St} {H : Hp} {ι : Sum Nat Nat → Addr} {m m0 : M} {ι0 : Sum Nat Nat → Addr} {H0 : Hp} {a : AV} {v : V} {lo hi : Option Int} {Q : VK},
    Rel C ι σ H m → AVR C ι H m.S.length a v → ExtE m0 ι0 H0 m ι H → OkR C W σ H ι m m0 ι0 H0 Q (f lo hi a m) → r v lo hi H Q
section
variable {C : Com} {N : List Str} {sc : Scope} {k : Nat} {e : Expr} {pos p2 : Pos}
theorem SP.none : SP C N sc k none noPart := ⟨fun X W B tk => po_imp po_none fun σ H Q ⟨ι, m, rl, q⟩ => q ι H _ .refl rl rfl⟩
theorem SP.some {F : Ex AV} (h : SA C N sc k e F) : SP C N sc k (some e) (intPart F) := by
  refine ⟨fun X W B tk => po_imp (po_some (h.run X W B tk)) fun σ H Q ⟨ι, m, rl, q⟩ => ⟨ι, m, rl, ?_⟩⟩
  refine OkO.bind q fun u m1 ι1 H1 x e1 ex1 r1 rx q1 => ?_
  cases u with
  | t d =>
    cases d with
    | int i => exact ⟨i, rx, q1 ι1 H1 _ .refl r1 rfl⟩
    | _ => exact q1.elim
  | _ => exact q1.elim
theorem SE.sl {lo hi : Option Expr} {F : Ex AV} {L U : Ex (Option Int)} {f : Option Int → Option Int → AV → M → Out RV} {r : V → Option Int → Option Int → Hp → VK → Prop} (h : SA C N sc k e F) (hl : SP C N sc k lo L) (hu : SP C N sc k hi U) (hr : ∀ X, Bd C N sc k X → SlR X r) (hf : ImpS C f r) :
    SE C N sc k (.Subscript e (.Slice lo hi .none p2) pos) (eS f F L U) := by
  refine ⟨fun X W B tk => pe_imp (pe_slice (hr X B) (h.run X W B tk) (hl.run X W B tk) (hu.run X W B tk)) fun σ H Q ⟨ι, m, rl, q⟩ => ⟨ι, m, rl, ?_⟩⟩
  refine OkO.bind q fun u m1 ι1 H1 x e1 ex1 r1 rx q1 => ⟨ι1, m1, r1, ?_⟩
  refine OkO.bind q1 fun lo m2 ι2 H2 lo' e2 ex2 r2 rl q2 => ⟨ι2, m2, r2, ?_⟩
  refine OkO.bind q2 fun hi m3 ι3 H3 hi' e3 ex3 r3 rh q3 => ?_
  cases rl
  cases rh
  exact hf.ok r3 (rx.ext (ex2.trans ex3)) (ex1.trans (ex2.trans ex3)) q3
theorem Dens.cut {H : Hp} {xs : List D} {vs : List V} (h : Dens C H xs vs) (lo hi : Option Int) : Dens C H (cutL xs lo hi) (cutV vs lo hi) := by
  unfold cutL cutV
  rw [h.length]
  exact (h.drop _).take _
theorem cutL_whole {α : Type} (xs : List α) (lo hi : Option Int) (h : HT.sIx xs.length 0 lo = 0 ∧ HT.sIx xs.length xs.length hi = xs.length) : cutL xs lo hi = xs := by
  unfold cutL
  rw [h.1, h.2]
  simp
theorem imp_slice : ImpS C slF (fun x lo hi H Q => rSlL C.K x lo hi H Q ∨ rSlA C.K x lo hi H Q ∨ rSlS x lo hi H Q) := by
  constructor
  intro W σ H ι m m0 ι0 H0 a v lo hi Q rl ha ex q
  have go : ∀ a : AV, AVR C ι H m.S.length a v → OkR C W σ H ι m m0 ι0 H0 Q (match lstOf m a with
      | some xs => .ok (.own (.lst (cutL xs lo hi))) m
      | none => .stuck) → rSlL C.K v lo hi H Q := fun a ha q => by
    cases es : lstOf m a with
    | none => rw [es] at q; exact q.elim
    | some xs =>
      rw [es] at q
      obtain ⟨p, vs, rfl, h1, h2⟩ := lst_of rl ha es
      exact ⟨p, vs, rfl, .inl h1, newL rl ex q (h2.cut lo hi)⟩
  cases a with
  | t d =>
    cases d with
    | str x =>
      have q' : OkR C W σ H ι m m0 ι0 H0 Q (match Nat.blt x.length lim with
        | true => okD (.str (cutL x lo hi)) m
        | false => .stuck) := q
      cases hl : Nat.blt x.length lim with
      | false => rw [hl] at q'; exact q'.elim
      | true =>
        rw [hl] at q'
        refine .inr (.inr ⟨mkS x, ha, ?_, okT rl q' ?_⟩)
        · rw [mkS_len]; exact Nat.le_of_lt (lim_line hl)
        · show V.str _ = V.str _
          first
            | rfl
            | (congr 1; unfold cutS cutL mkS; simp [Str.length])
    | tup xs =>
      obtain ⟨p, vs, rfl, h1, h2⟩ := ha
      refine .inr (.inl ⟨p, vs, rfl, SqT.of h1, fun hw => okT rl q ?_, fun _ => newT rl q (h2.cut lo hi)⟩)
      rw [h2.length] at hw
      rw [cutL_whole xs lo hi hw]
      exact ⟨p, vs, rfl, h1, h2⟩
    | kls xs =>
      obtain ⟨p, vs, rfl, h1, h2⟩ := ha
      refine .inl ⟨p, vs, rfl, ?_, newL rl ex q (h2.cut lo hi)⟩
      rcases h1 with ⟨o, h1⟩ | h1
      · exact .inl (.inr ⟨o, h1⟩)
      · exact .inr h1
    | _ => exact .inl (go _ ha q)
  | _ => exact .inl (go _ ha q)
theorem SlR.three {X : Cx} : SlR X (fun x lo hi H Q => rSlL X.K x lo hi H Q ∨ rSlA X.K x lo hi H Q ∨ rSlS x lo hi H Q) := sl_list.or (sl_tupA.or sl_str)
theorem SE.slice {lo hi : Option Expr} {F : Ex AV} {L U : Ex (Option Int)} (h : SA C N sc k e F) (hl : SP C N sc k lo L) (hu : SP C N sc k hi U) : SE C N sc k (.Subscript e (.Slice lo hi .none p2) pos) (eS slF F L U) :=
  SE.sl h hl hu (fun X B => by have := B.com; subst this; exact SlR.three) imp_slice
theorem SE.index {a b : Expr} {F G : Ex AV} (ha : SA C N sc k a F) (hb : SA C N sc k b G) (hs : PlainIx b) : SE C N sc k (.Subscript a b pos) (e2 ixF F G) :=
  SE.ix ha hb (fun X B => by have := B.com; subst this; exact ix_seq) imp_ix hs

/-! ### displays -/
def lstE (Fs : Ex (List AV)) : Ex RV := fun m => (Fs m).bind fun as m' => match avsD as with
  | some ds => match Nat.blt ds.length lim with
    | true => .ok (.own (.lst ds)) m'
    | false => .stuck
  | none => .stuck
def tupE (Fs : Ex (List AV)) : Ex RV := fun m => (Fs m).bind fun as m' => match avsD as with
  | some ds => match Nat.blt ds.length lim with
    | true => .ok (.av (.t (.tup ds))) m'
    | false => .stuck
  | none => .stuck
theorem avsD_ok {ι : Sum Nat Nat → Addr} {H : Hp} {n : Nat} : ∀ {as : List AV} {ds : List D} {vs : List V}, avsD as = some ds → AVRs C ι H n as vs → Dens C H ds vs
  | [], ds, vs, e, h => by cases e; exact h
  | .t d :: r, ds, vs, e, h => by
    unfold avsD at e
    cases q : avsD r with
    | none => rw [q] at e; cases e
    | some es =>
      rw [q] at e; cases e
      obtain ⟨v, r', e1, h1, h2⟩ := h
      exact ⟨v, r', e1, h1, avsD_ok q h2⟩
  | .b _ :: r, ds, vs, e, h => by cases e
  | .s _ :: r, ds, vs, e, h => by cases e
theorem SE.lst {es : List Expr} {Fs : Ex (List AV)} (h : SAs C N sc k es Fs) : SE C N sc k (.List es pos) (lstE Fs) := by
  refine ⟨fun X W B tk => pe_imp (pe_lst (h.run X W B tk)) fun σ H Q ⟨ι, m, rl, q⟩ => ⟨ι, m, rl, ?_⟩⟩
  refine OkO.bind q fun as m1 ι1 H1 vs e1 ex1 r1 ra q1 => ?_
  cases ed : avsD as with
  | none => rw [ed] at q1; exact q1.elim
  | some ds =>
    rw [ed] at q1
    have q1' : OkR C W σ H1 ι1 m1 m ι H Q (match Nat.blt ds.length lim with
      | true => .ok (.own (.lst ds)) m1
      | false => .stuck) := q1
    have hd := avsD_ok ed ra
    cases hl : Nat.blt ds.length lim with
    | false => rw [hl] at q1'; exact q1'.elim
    | true =>
      rw [hl] at q1'
      exact ⟨by rw [hd.length]; exact Nat.le_of_lt (lim_line hl), newL r1 ex1 q1' hd⟩
theorem SE.tup {es : List Expr} {Fs : Ex (List AV)} {x1} (h : SAs C N sc k es Fs) : SE C N sc k (.Tuple es x1 pos) (tupE Fs) := by
  refine ⟨fun X W B tk => pe_imp (pe_tup (h.run X W B tk)) fun σ H Q ⟨ι, m, rl, q⟩ => ⟨ι, m, rl, ?_⟩⟩
  refine OkO.bind q fun as m1 ι1 H1 vs e1 ex1 r1 ra q1 => ?_
  cases ed : avsD as with
  | none => rw [ed] at q1; exact q1.elim
  | some ds =>
    rw [ed] at q1
    have q1' : OkR C W σ H1 ι1 m1 m ι H Q (match Nat.blt ds.length lim with
      | true => .ok (.av (.t (.tup ds))) m1
      | false => .stuck) := q1
    have hd := avsD_ok ed ra
    cases hl : Nat.blt ds.length lim with
    | false => rw [hl] at q1'; exact q1'.elim
    | true =>
      rw [hl] at q1'
      exact ⟨by rw [hd.length]; exact Nat.le_of_lt (lim_line hl), newT r1 q1' hd⟩
end
end BL
end part_BLj

section part_BLk
set_option Elab.async false
set_option linter.all false
set_option maxRecDepth 100000
set_option maxHeartbeats 4000000
set_option autoImplicit false
/-! BLk: == and in of trees. -/
namespace BL
open PySem PySem.Spec PyProof.Rows L2

mutual
/-- Python's == of trees without dicts and instances -/
def eqvD : D → D → Bool
  | .non, .non => true
  | .bl a, .bl b => a == b
  | .bl a, .int j => (if a then 1 else 0) == j
  | .int i, .bl b => i == (if b then 1 else 0)
  | .int i, .int j => i == j
  | .str x, .str y => x == y
  | .lst xs, .lst ys => eqvDs xs ys
  | .tup xs, .tup ys => eqvDs xs ys
  | _, _ => false
def eqvDs : List D → List D → Bool
  | [], [] => true
  | x :: xs, y :: ys => eqvD x y && eqvDs xs ys
  | _, _ => false
end
mutual
def plD : D → Bool
  | .non => true
  | .bl _ => true
  | .int _ => true
  | .str _ => true
  | .lst xs => plDs xs
  | .tup xs => plDs xs
  | .dic _ => false
  | .ins _ _ => false
  | .kls _ => false
def plDs : List D → Bool
  | [] => true
  | d :: ds => plD d && plDs ds
end
mutual
def depD : D → Nat
  | .lst xs => depDs xs + 1
  | .tup xs => depDs xs + 1
  | _ => 0
def depDs : List D → Nat
  | [] => 0
  | d :: ds => max (depD d) (depDs ds)
end
section
mutual
theorem eqvD_refl : ∀ d : D, plD d = true → eqvD d d = true
  | .non, _ => rfl
  | .bl _, _ => by simp [eqvD]
  | .int _, _ => by simp [eqvD]
  | .str _, _ => by simp [eqvD]
  | .lst xs, h => eqvDs_refl xs h
  | .tup xs, h => eqvDs_refl xs h
  | .dic _, h => by cases h
  | .ins _ _, h => by cases h
  | .kls _, h => by cases h
theorem eqvDs_refl : ∀ ds : List D, plDs ds = true → eqvDs ds ds = true
  | [], _ => rfl
  | d :: ds, h => by
    have h' := Bool.and_eq_true_iff.mp (show (plD d && plDs ds) = true from h)
    show (eqvD d d && eqvDs ds ds) = true
    rw [eqvD_refl d h'.1, eqvDs_refl ds h'.2]; rfl
end
theorem eqvDs_all : ∀ (xs ys : List D), xs.length = ys.length → (List.range xs.length).all (fun j => match xs[j]?, ys[j]? with
    | some x, some y => eqvD x y
    | _, _ => false) = eqvDs xs ys
  | [], [], _ => rfl
  | x :: xs, y :: ys, h => by
    have ih := eqvDs_all xs ys (by simpa using h)
    show _ = (eqvD x y && eqvDs xs ys)
    rw [← ih, List.length_cons, List.range_succ_eq_map, List.all_cons, List.all_map]
    rfl
theorem eqvDs_len : ∀ (xs ys : List D), xs.length ≠ ys.length → eqvDs xs ys = false
  | [], [], h => absurd rfl h
  | [], _ :: _, _ => rfl
  | _ :: _, [], _ => rfl
  | x :: xs, y :: ys, h => by
    show (eqvD x y && eqvDs xs ys) = false
    rw [eqvDs_len xs ys (by simpa using h), Bool.and_false]
end
section
variable {C : Com} {H : Hp}
mutual
theorem Den.inj : ∀ (d e : D) (v : V), plD d = true → plD e = true → Den C H d v → Den C H e v → d = e
  | .non, e, v, _, pe, h, g => by
    rw [show v = .non from h] at g
    cases e <;> first | rfl | (cases pe; done) | (exact absurd g (by simp [Den]))
  | .bl b, e, v, _, pe, h, g => by
    rw [show v = .bl b from h] at g
    cases e <;> first | (cases pe; done) | (simp [Den] at g; done) | (simp only [Den] at g; cases g; rfl)
  | .int b, e, v, _, pe, h, g => by
    rw [show v = .int b from h] at g
    cases e <;> first | (cases pe; done) | (simp [Den] at g; done) | (simp only [Den] at g; cases g; rfl)
  | .str b, e, v, _, pe, h, g => by
    rw [show v = .str (mkS b) from h] at g
    cases e <;> first | (cases pe; done) | (simp [Den] at g; done) | skip
    rename_i c
    have q : V.str (mkS b) = V.str (mkS c) := g
    have q2 : mkS b = mkS c := V.str.inj q
    have q3 : b = c := by
      have := congrArg (fun z : Str => z.cps.toList) q2
      simpa [mkS] using this
    rw [q3]
  | .tup xs, e, v, pd, pe, h, g => by
    obtain ⟨a, vs, rfl, h1, h2⟩ := h
    cases e <;> first | (cases pe; done) | (simp [Den] at g; done) | skip
    · rename_i ys
      obtain ⟨a', vs', e1, g1, g2⟩ := g
      cases e1
      rw [h1] at g1
      cases g1
      rw [Dens.inj xs ys vs pd pe h2 g2]
    · rename_i ys
      obtain ⟨a', o, vs', e1, g1, g2⟩ := g
      cases e1
      rw [h1] at g1
      cases g1
  | .lst xs, e, v, pd, pe, h, g => by
    obtain ⟨a, o, vs, rfl, h1, h2⟩ := h
    cases e <;> first | (cases pe; done) | (simp [Den] at g; done) | skip
    · rename_i ys
      obtain ⟨a', vs', e1, g1, g2⟩ := g
      cases e1
      rw [h1] at g1
      cases g1
    · rename_i ys
      obtain ⟨a', o', vs', e1, g1, g2⟩ := g
      cases e1
      rw [h1] at g1
      cases g1
      rw [Dens.inj xs ys vs pd pe h2 g2]
  | .dic _, _, _, pd, _, _, _ => by cases pd
  | .ins _ _, _, _, pd, _, _, _ => by cases pd
  | .kls _, _, _, pd, _, _, _ => by cases pd
theorem Dens.inj : ∀ (ds es : List D) (vs : List V), plDs ds = true → plDs es = true → Dens C H ds vs → Dens C H es vs → ds = es
  | [], [], _, _, _, _, _ => rfl
  | [], e :: es, vs, _, _, h, g => by
    rw [show vs = [] from h] at g
    obtain ⟨_, _, q, _⟩ := g
    cases q
  | d :: ds, [], vs, _, _, h, g => by
    rw [show vs = [] from g] at h
    obtain ⟨_, _, q, _⟩ := h
    cases q
  | d :: ds, e :: es, vs, pd, pe, h, g => by
    obtain ⟨v, r, rfl, h1, h2⟩ := h
    obtain ⟨v', r', q, g1, g2⟩ := g
    cases q
    have pd' := Bool.and_eq_true_iff.mp (show (plD d && plDs ds) = true from pd)
    have pe' := Bool.and_eq_true_iff.mp (show (plD e && plDs es) = true from pe)
    rw [Den.inj d e v pd'.1 pe'.1 h1 g1, Dens.inj ds es r pd'.2 pe'.2 h2 g2]
end
end
section
variable {X : Cx} {pins : List (Addr × Obj)} {σ : L2.St} {H : Hp} {s : Shared} {C : Com}
theorem plDs_get : ∀ {ds : List D} {i : Nat} {d : D}, plDs ds = true → ds[i]? = some d → plD d = true
  | [], _, _, _, e => by simp at e
  | d :: ds, 0, x, h, e => by
    simp at e; subst e
    exact (Bool.and_eq_true_iff.mp (show (plD d && plDs ds) = true from h)).1
  | d :: ds, i + 1, x, h, e => plDs_get (Bool.and_eq_true_iff.mp (show (plD d && plDs ds) = true from h)).2 (by simpa using e)
theorem depDs_get : ∀ {ds : List D} {i : Nat} {d : D}, ds[i]? = some d → depD d ≤ depDs ds
  | [], _, _, e => by simp at e
  | d :: ds, 0, x, e => by
    simp at e; subst e
    exact Nat.le_max_left _ _
  | d :: ds, i + 1, x, e => Nat.le_trans (depDs_get (i := i) (ds := ds) (by simpa using e)) (Nat.le_max_right _ _)
theorem in1_units (A : Around) : A.in1.units = A.units + 1 := rfl
/-- two sequences' items, one by one -/
theorem items_at {A : Around} {xs ys : List D} {vs ws : List V} {us ks : List Value} (hd : Dens C H xs vs) (he : Dens C H ys ws) (r1 : Vals vs us) (r2 : Vals ws ks) (px : plDs xs = true) (py : plDs ys = true)
    (ih : ∀ (d e : D) (x y : V) (u v : Value), depD d ≤ depDs xs → Den C H d x → Den C H e y → RelV x u → RelV y v → plD d = true → plD e = true → SeqAt.EqAt A s u v (eqvD d e)) (j : Nat) (h1 : j < us.length) (h2 : j < ks.length) :
    SeqAt.EqAt A s us[j] ks[j] (match xs[j]?, ys[j]? with
      | some x, some y => eqvD x y
      | _, _ => false) := by
  have l1 : j < vs.length := by rw [r1.length]; exact h1
  have l2 : j < ws.length := by rw [r2.length]; exact h2
  obtain ⟨d, ed, hd'⟩ := hd.get' (List.getElem?_eq_getElem l1)
  obtain ⟨e, ee, he'⟩ := he.get' (List.getElem?_eq_getElem l2)
  obtain ⟨u, eu, ru⟩ := r1.get (List.getElem?_eq_getElem l1)
  obtain ⟨w, ew, rw'⟩ := r2.get (List.getElem?_eq_getElem l2)
  rw [ed, ee]
  have e1 : us[j] = u := by rw [List.getElem?_eq_getElem h1] at eu; exact Option.some.inj eu
  have e2 : ks[j] = w := by rw [List.getElem?_eq_getElem h2] at ew; exact Option.some.inj ew
  rw [e1, e2]
  exact ih d e _ _ u w (depDs_get ed) hd' he' ru rw' (plDs_get px ed) (plDs_get py ee)
theorem eq_at (I : L2.Inv X pins σ H s) : ∀ (n : Nat) (A : Around) (d e : D) (x y : V) (u v : Value), depD d ≤ n → A.units + n + 2 < cLine → Den C H d x → Den C H e y → RelV x u → RelV y v → plD d = true → plD e = true → SeqAt.EqAt A s u v (eqvD d e) := by
  intro n
  induction n with
  | zero =>
    intro A d e x y u v hn hu hd he ru rv pd pe
    have hu1 : A.units < cLine := by omega
    have tup : ∀ {a : Addr} {vs : List V}, H a = some (.tup vs) → ∃ its : List Value, s.heap.IsTuple a its.toArray := fun h => by
      obtain ⟨its, _, p, _⟩ := I.tuple (SqT.of (K := X.K) h); exact ⟨its, p⟩
    have lst : ∀ {a : Addr} {o : Obj} {vs : List V}, H a = some (.frz o (.lst vs)) → ∃ its : List Value, s.heap.IsList a its.toArray := fun {a o vs} h => by
      obtain ⟨its, _, p, _⟩ := I.list (xs := vs) (.inl (.inr ⟨_, h⟩)); exact ⟨its, p.isList⟩
    cases d <;> first | (cases pd; done) | (exact absurd hn (Nat.not_succ_le_zero _)) | skip
    · cases (show x = .non from hd)
      cases (show u = Value.none from ru)
      cases e <;> first | (cases pe; done) | skip
      · cases (show y = .non from he); cases (show v = Value.none from rv); exact .same _
      · cases (show y = .bl _ from he); cases (show v = Value.bool _ from rv); exact .none_bool _
      · cases (show y = .int _ from he); obtain ⟨t, rfl⟩ := rv; exact .none_int _ _
      · cases (show y = .str _ from he); obtain ⟨t, rfl⟩ := rv; exact .none_str _ _
      · obtain ⟨a, vs, rfl, h1, _⟩ := he; cases (show v = Value.ref a from rv); obtain ⟨its, p⟩ := tup h1; exact .none_tuple p hu1
      · obtain ⟨a, o, vs, rfl, h1, _⟩ := he; cases (show v = Value.ref a from rv); obtain ⟨its, p⟩ := lst h1; exact .none_list p hu1
    · rename_i b
      cases (show x = .bl b from hd)
      cases (show u = Value.bool b from ru)
      cases e <;> first | (cases pe; done) | skip
      · cases (show y = .non from he); cases (show v = Value.none from rv); exact .bool_none _
      · cases (show y = .bl _ from he); cases (show v = Value.bool _ from rv); exact .bool_bool _ _
      · cases (show y = .int _ from he); obtain ⟨t, rfl⟩ := rv; exact .bool_int _ _ _
      · cases (show y = .str _ from he); obtain ⟨t, rfl⟩ := rv; exact .bool_str _ _ _
      · obtain ⟨a, vs, rfl, h1, _⟩ := he; cases (show v = Value.ref a from rv); obtain ⟨its, p⟩ := tup h1; exact .bool_tuple _ p hu1
      · obtain ⟨a, o, vs, rfl, h1, _⟩ := he; cases (show v = Value.ref a from rv); obtain ⟨its, p⟩ := lst h1; exact .bool_list _ p hu1
    · rename_i b
      cases (show x = .int b from hd)
      obtain ⟨t0, rfl⟩ := ru
      cases e <;> first | (cases pe; done) | skip
      · cases (show y = .non from he); cases (show v = Value.none from rv); exact .int_none _ _
      · cases (show y = .bl _ from he); cases (show v = Value.bool _ from rv); exact .int_bool _ _ _
      · cases (show y = .int _ from he); obtain ⟨t, rfl⟩ := rv; exact .int_int _ _ _ _
      · cases (show y = .str _ from he); obtain ⟨t, rfl⟩ := rv; exact .int_str _ _ _ _
      · obtain ⟨a, vs, rfl, h1, _⟩ := he; cases (show v = Value.ref a from rv); obtain ⟨its, p⟩ := tup h1; exact .int_tuple _ _ p hu1
      · obtain ⟨a, o, vs, rfl, h1, _⟩ := he; cases (show v = Value.ref a from rv); obtain ⟨its, p⟩ := lst h1; exact .int_list _ _ p hu1
    · rename_i b
      cases (show x = .str (mkS b) from hd)
      obtain ⟨t0, rfl⟩ := ru
      cases e <;> first | (cases pe; done) | skip
      · cases (show y = .non from he); cases (show v = Value.none from rv); exact .str_none _ _
      · cases (show y = .bl _ from he); cases (show v = Value.bool _ from rv); exact .str_bool _ _ _
      · cases (show y = .int _ from he); obtain ⟨t, rfl⟩ := rv; exact .str_int _ _ _ _
      · rename_i c
        cases (show y = .str (mkS c) from he)
        obtain ⟨t, rfl⟩ := rv
        have q : eqvD (.str b) (.str c) = (mkS b == mkS c) := by
          show (b == c) = _
          rw [Bool.eq_iff_iff, beq_iff_eq, beq_iff_eq]
          constructor
          · rintro rfl; rfl
          · intro z
            have := congrArg (fun z : Str => z.cps.toList) z
            simpa [mkS] using this
        rw [q]
        exact .str_str _ _ _ _
      · obtain ⟨a, vs, rfl, h1, _⟩ := he; cases (show v = Value.ref a from rv); obtain ⟨its, p⟩ := tup h1; exact .str_tuple _ _ p hu1
      · obtain ⟨a, o, vs, rfl, h1, _⟩ := he; cases (show v = Value.ref a from rv); obtain ⟨its, p⟩ := lst h1; exact .str_list _ _ p hu1
  | succ n ih =>
    intro A d e x y u v hn hu hd he ru rv pd pe
    by_cases hz : depD d ≤ n
    · exact ih A d e x y u v hz (by omega) hd he ru rv pd pe
    have hu1 : A.units < cLine := by omega
    have tup : ∀ {a : Addr} {vs : List V}, H a = some (.tup vs) → ∃ its : List Value, Vals vs its ∧ s.heap.IsTuple a its.toArray := fun h => by
      obtain ⟨its, r, p, _⟩ := I.tuple (SqT.of (K := X.K) h); exact ⟨its, r, p⟩
    have lst : ∀ {a : Addr} {o : Obj} {vs : List V}, H a = some (.frz o (.lst vs)) → ∃ its : List Value, Vals vs its ∧ s.heap.IsList a its.toArray := fun {a o vs} h => by
      obtain ⟨its, r, p, _⟩ := I.list (xs := vs) (.inl (.inr ⟨_, h⟩)); exact ⟨its, r, p.isList⟩
    cases d <;> first | (cases pd; done) | (exact absurd (Nat.zero_le n) hz) | skip
    · rename_i xs
      obtain ⟨a, vs, rfl, h1, h2⟩ := id hd
      cases (show u = Value.ref a from ru)
      obtain ⟨its, rv1, p1⟩ := tup h1
      cases e <;> first | (cases pe; done) | skip
      · cases (show y = .non from he); cases (show v = Value.none from rv); exact .tuple_none p1 hu1
      · cases (show y = .bl _ from he); cases (show v = Value.bool _ from rv); exact .tuple_bool _ p1 hu1
      · cases (show y = .int _ from he); obtain ⟨t, rfl⟩ := rv; exact .tuple_int _ _ p1 hu1
      · cases (show y = .str _ from he); obtain ⟨t, rfl⟩ := rv; exact .tuple_str _ _ p1 hu1
      · rename_i ys
        obtain ⟨b, ws, rfl, g1, g2⟩ := id he
        cases (show v = Value.ref b from rv)
        obtain ⟨its2, rv2, p2⟩ := tup g1
        by_cases hab : a = b
        · subst hab
          rw [Den.inj _ _ _ pd pe hd he, eqvD_refl _ pe]
          exact .same _
        · have l1 : its.length = xs.length := by rw [← rv1.length, h2.length]
          have l2 : its2.length = ys.length := by rw [← rv2.length, g2.length]
          have hb : A.in1.units + n + 2 < cLine := by rw [in1_units]; omega
          have q := SeqAt.RcAt.tuples (A := A) p1 p2 hu1 fun j k1 k2 => items_at (A := A.in1) h2 g2 rv1 rv2 pd pe (fun d e x y u v hdep => ih A.in1 d e x y u v (by have : depDs xs + 1 ≤ n + 1 := hn; omega) hb) j (by simpa using k1) (by simpa using k2)
          have f : ((List.range (min its.toArray.size its2.toArray.size)).all (fun j => match xs[j]?, ys[j]? with
              | some x, some y => eqvD x y
              | _, _ => false) && its.toArray.size == its2.toArray.size) = eqvD (.tup xs) (.tup ys) := by
            show _ = eqvDs xs ys
            simp only [List.size_toArray, l1, l2]
            by_cases hl : xs.length = ys.length
            · rw [← eqvDs_all xs ys hl, hl]; simp
            · rw [eqvDs_len xs ys hl]; simp [hl]
          rw [f] at q
          exact .of_refs hab q
      · rename_i ys
        obtain ⟨b, o, ws, rfl, g1, g2⟩ := he
        cases (show v = Value.ref b from rv)
        obtain ⟨its2, _, p2⟩ := lst g1
        exact .tuple_list p1 p2 hu1
    · rename_i xs
      obtain ⟨a, o, vs, rfl, h1, h2⟩ := id hd
      cases (show u = Value.ref a from ru)
      obtain ⟨its, rv1, p1⟩ := lst h1
      cases e <;> first | (cases pe; done) | skip
      · cases (show y = .non from he); cases (show v = Value.none from rv); exact .list_none p1 hu1
      · cases (show y = .bl _ from he); cases (show v = Value.bool _ from rv); exact .list_bool _ p1 hu1
      · cases (show y = .int _ from he); obtain ⟨t, rfl⟩ := rv; exact .list_int _ _ p1 hu1
      · cases (show y = .str _ from he); obtain ⟨t, rfl⟩ := rv; exact .list_str _ _ p1 hu1
      · rename_i ys
        obtain ⟨b, ws, rfl, g1, g2⟩ := he
        cases (show v = Value.ref b from rv)
        obtain ⟨its2, _, p2⟩ := tup g1
        exact .list_tuple p1 p2 hu1
      · rename_i ys
        obtain ⟨b, o2, ws, rfl, g1, g2⟩ := id he
        cases (show v = Value.ref b from rv)
        obtain ⟨its2, rv2, p2⟩ := lst g1
        by_cases hab : a = b
        · subst hab
          rw [Den.inj _ _ _ pd pe hd he, eqvD_refl _ pe]
          exact .same _
        · have l1 : its.length = xs.length := by rw [← rv1.length, h2.length]
          have l2 : its2.length = ys.length := by rw [← rv2.length, g2.length]
          have hb : A.in1.units + n + 2 < cLine := by rw [in1_units]; omega
          by_cases hl : xs.length = ys.length
          · have q := SeqAt.RcAt.lists (A := A) p1 p2 (by simp [l1, l2, hl]) hu1 fun j k1 k2 => items_at (A := A.in1) h2 g2 rv1 rv2 pd pe (fun d e x y u v hdep => ih A.in1 d e x y u v (by have : depDs xs + 1 ≤ n + 1 := hn; omega) hb) j (by simpa using k1) (by simpa using k2)
            rw [List.size_toArray, l1, eqvDs_all xs ys hl] at q
            exact .of_refs hab q
          · have q := SeqAt.RcAt.lists_lengths (A := A) p1 p2 (by simp [l1, l2, hl]) hu1
            rw [show eqvD (.lst xs) (.lst ys) = false from eqvDs_len xs ys hl]
            exact .of_refs hab q
end
end BL
end part_BLk

section part_BLl
set_option Elab.async false
set_option linter.all false
set_option maxRecDepth 100000
set_option maxHeartbeats 4000000
set_option autoImplicit false
/-! BLl: == != in, not in; isinstance; len, int, list, tuple, sum, max, all, any. -/
namespace BL
open PySem PySem.Spec PyProof.Rows L2

mutual
def toP : D → PyData
  | .non => .none
  | .bl b => .bool b
  | .int i => .int i
  | .str x => .str (mkS x)
  | .lst xs => .list (toPs xs)
  | .tup xs => .tuple (toPs xs)
  | .dic _ => .none
  | .ins _ _ => .none
  | .kls _ => .none
def toPs : List D → List PyData
  | [] => []
  | d :: ds => toP d :: toPs ds
end
theorem mkS_beq (x y : List Nat) : (mkS x == mkS y) = (x == y) := by
  rw [Bool.eq_iff_iff, beq_iff_eq, beq_iff_eq]
  constructor
  · intro z
    have := congrArg (fun z : Str => z.cps.toList) z
    simpa [mkS] using this
  · rintro rfl; rfl
mutual
theorem eqv_toP : ∀ d e : D, plD d = true → plD e = true → PyData.eqv (toP d) (toP e) = eqvD d e
  | .non, e, _, pe => by cases e <;> first | rfl | (cases pe; done)
  | .bl _, e, _, pe => by cases e <;> first | rfl | (cases pe; done)
  | .int _, e, _, pe => by cases e <;> first | rfl | (cases pe; done)
  | .str x, e, _, pe => by
    cases e <;> first | rfl | (cases pe; done) | skip
    rename_i y
    exact mkS_beq x y
  | .lst xs, e, pd, pe => by
    cases e <;> first | rfl | (cases pe; done) | skip
    rename_i ys
    exact eqv_toPs xs ys pd pe
  | .tup xs, e, pd, pe => by
    cases e <;> first | rfl | (cases pe; done) | skip
    rename_i ys
    exact eqv_toPs xs ys pd pe
  | .dic _, _, pd, _ => by cases pd
  | .ins _ _, _, pd, _ => by cases pd
  | .kls _, _, pd, _ => by cases pd
theorem eqv_toPs : ∀ ds es : List D, plDs ds = true → plDs es = true → PyData.eqvAll (toPs ds) (toPs es) = eqvDs ds es
  | [], [], _, _ => rfl
  | [], _ :: _, _, _ => rfl
  | _ :: _, [], _, _ => rfl
  | d :: ds, e :: es, pd, pe => by
    have pd' := Bool.and_eq_true_iff.mp (show (plD d && plDs ds) = true from pd)
    have pe' := Bool.and_eq_true_iff.mp (show (plD e && plDs es) = true from pe)
    show (PyData.eqv (toP d) (toP e) && PyData.eqvAll (toPs ds) (toPs es)) = (eqvD d e && eqvDs ds es)
    rw [eqv_toP d e pd'.1 pe'.1, eqv_toPs ds es pd'.2 pe'.2]
end
mutual
/-- texts of true signs alone -/
def sgD : D → Bool
  | .str x => x.all fun c => Nat.blt c 0x110000
  | .lst xs => sgDs xs
  | .tup xs => sgDs xs
  | _ => true
def sgDs : List D → Bool
  | [] => true
  | d :: ds => sgD d && sgDs ds
end
mutual
theorem lay_toP : ∀ d : D, plD d = true → sgD d = true → (toP d).canLay0 = true
  | .non, _, _ => by simp [toP, PyData.canLay0]
  | .bl _, _, _ => by simp [toP, PyData.canLay0]
  | .int _, _, _ => by simp [toP, PyData.canLay0]
  | .str x, _, h => by
    have h' : (x.all fun c => Nat.blt c 0x110000) = true := h
    simp only [toP, PyData.canLay0, PyData.strOk, mkS]
    rw [List.all_eq_true] at h'
    simp only [Array.all_eq_true_iff_forall_mem, List.mem_toArray, decide_eq_true_eq]
    intro c hc
    exact Nat.le_of_ble_eq_true (h' c hc)
  | .lst xs, p, h => by
    rw [toP, PyData.canLay0]
    exact lay_toPs xs p h
  | .tup xs, p, h => by
    rw [toP, PyData.canLay0]
    exact lay_toPs xs p h
  | .dic _, p, _ => by cases p
  | .ins _ _, p, _ => by cases p
  | .kls _, p, _ => by cases p
theorem lay_toPs : ∀ ds : List D, plDs ds = true → sgDs ds = true → PyData.canLayAll0 (toPs ds) = true
  | [], _, _ => by simp [toPs, PyData.canLayAll0]
  | d :: ds, p, h => by
    have p' := Bool.and_eq_true_iff.mp (show (plD d && plDs ds) = true from p)
    have h' := Bool.and_eq_true_iff.mp (show (sgD d && sgDs ds) = true from h)
    rw [toPs, PyData.canLayAll0, lay_toP d p'.1 h'.1, lay_toPs ds p'.2 h'.2]
    rfl
end
mutual
theorem dep_toP : ∀ d : D, (toP d).depth = depD d
  | .non => rfl
  | .bl _ => rfl
  | .int _ => rfl
  | .str _ => rfl
  | .lst xs => by
    show PyData.depthAll (toPs xs) + 1 = depDs xs + 1
    rw [dep_toPs xs]
  | .tup xs => by
    show PyData.depthAll (toPs xs) + 1 = depDs xs + 1
    rw [dep_toPs xs]
  | .dic _ => rfl
  | .ins _ _ => rfl
  | .kls _ => rfl
theorem dep_toPs : ∀ ds : List D, PyData.depthAll (toPs ds) = depDs ds
  | [] => rfl
  | d :: ds => by
    show max (toP d).depth (PyData.depthAll (toPs ds)) = max (depD d) (depDs ds)
    rw [dep_toP d, dep_toPs ds]
end
section
variable {X : Cx} {pins : List (Addr × Obj)} {σ : L2.St} {H : Hp} {s : Shared} {C : Com}
mutual
theorem Den.reads (I : L2.Inv X pins σ H s) : ∀ (d : D) (v : V) (u : Value), plD d = true → Den C H d v → RelV v u → ∃ as, Reads s.heap u (toP d) as
  | .non, v, u, _, h, r => by
    cases (show v = .non from h)
    cases (show u = Value.none from r)
    exact ⟨_, Reads.none⟩
  | .bl b, v, u, _, h, r => by
    cases (show v = .bl b from h)
    cases (show u = Value.bool b from r)
    exact ⟨_, Reads.bool b⟩
  | .int i, v, u, _, h, r => by
    cases (show v = .int i from h)
    obtain ⟨t, rfl⟩ := r
    exact ⟨_, Reads.int i t⟩
  | .str x, v, u, _, h, r => by
    cases (show v = .str (mkS x) from h)
    obtain ⟨t, rfl⟩ := r
    exact ⟨_, Reads.str _ t⟩
  | .lst xs, v, u, p, h, r => by
    obtain ⟨a, o, vs, rfl, h1, h2⟩ := h
    cases (show u = Value.ref a from r)
    exact lst_reads I xs p h2 (.inr ⟨o, h1⟩)
  | .tup xs, v, u, p, h, r => by
    obtain ⟨a, vs, rfl, h1, h2⟩ := h
    cases (show u = Value.ref a from r)
    obtain ⟨its, rv, ⟨o, ho, hc, n, hd⟩, _⟩ := I.tuple (SqT.of (K := X.K) h1)
    obtain ⟨as, hr⟩ := Dens.reads I xs vs its p h2 rv
    exact ⟨_, Reads.tuple ho hc hd (by simpa using hr)⟩
  | .dic _, _, _, p, _, _ => by cases p
  | .ins _ _, _, _, p, _, _ => by cases p
  | .kls _, _, _, p, _, _ => by cases p
theorem lst_reads (I : L2.Inv X pins σ H s) : ∀ (xs : List D) {a : Addr} {vs : List V}, plDs xs = true → Dens C H xs vs → Rd H a (.lst vs) → ∃ as, Reads s.heap (.ref a) (toP (.lst xs)) as
  | xs, a, vs, p, h2, h1 => by
    obtain ⟨its, rv, ⟨o, n, ho, hc, _, hd⟩, _⟩ := I.list (xs := vs) (.inl h1)
    obtain ⟨as, hr⟩ := Dens.reads I xs vs its p h2 rv
    exact ⟨_, Reads.list ho hc hd (by simpa using hr)⟩
theorem Dens.reads (I : L2.Inv X pins σ H s) : ∀ (ds : List D) (vs : List V) (us : List Value), plDs ds = true → Dens C H ds vs → Vals vs us → ∃ as, ReadsAll s.heap us (toPs ds) as
  | [], vs, us, _, h, r => by
    cases (show vs = [] from h)
    cases r
    exact ⟨_, ReadsAll.nil⟩
  | d :: ds, vs, us, p, h, r => by
    obtain ⟨v, vs', rfl, h1, h2⟩ := h
    have p' := Bool.and_eq_true_iff.mp (show (plD d && plDs ds) = true from p)
    cases r with
    | cons r1 r2 =>
      obtain ⟨as, q1⟩ := Den.reads I d v _ p'.1 h1 r1
      obtain ⟨bs, q2⟩ := Dens.reads I ds vs' _ p'.2 h2 r2
      exact ⟨_, ReadsAll.cons q1 q2⟩
end
end
end BL
end part_BLl

section part_BLm
set_option Elab.async false
set_option linter.all false
set_option maxRecDepth 100000
set_option maxHeartbeats 4000000
set_option autoImplicit false
/-! BLm: == != in, not in; + and * of lists and tuples; isinstance; len, int, list, tuple, sum, max, all, any. -/
namespace BL
open PySem PySem.Spec PyProof.Rows L2

section
variable {C : Com} {W : WX} {σ : L2.St} {H : Hp} {ι : Sum Nat Nat → Addr} {m : M}
/-- the tree of what is read, be it frozen or not -/
def treeOf (m : M) : AV → Option D
  | .t d => some d
  | a => (lstOf m a).map .lst
def TreeV (C : Com) (H : Hp) (d : D) (v : V) : Prop := Den C H d v ∨ ∃ a vs xs, d = .lst xs ∧ v = .ref a ∧ Rd H a (.lst vs) ∧ Dens C H xs vs
theorem tree_of {a : AV} {v : V} {d : D} (r : Rel C ι σ H m) (h : AVR C ι H m.S.length a v) (e : treeOf m a = some d) : TreeV C H d v := by
  have go : ∀ {a : AV}, AVR C ι H m.S.length a v → (lstOf m a).map D.lst = some d → TreeV C H d v := fun {a} h e => by
    obtain ⟨xs, e1, e2⟩ := Option.map_eq_some_iff.mp e
    obtain ⟨p, vs, ev, h1, h2⟩ := lst_of r h e1
    exact .inr ⟨p, vs, xs, e2.symm, ev, h1, h2⟩
  cases a with
  | t d' => cases e; exact .inl h
  | b n => exact go h e
  | s i => exact go h e
theorem TreeV.reads {X : Cx} {pins : List (Addr × Obj)} {s : Shared} (I : L2.Inv X pins σ H s) {d : D} {v : V} {u : Value} (p : plD d = true) (h : TreeV C H d v) (r : RelV v u) : ∃ as, Reads s.heap u (toP d) as := by
  rcases h with h | ⟨a, vs, xs, rfl, rfl, h1, h2⟩
  · exact Den.reads I d v u p h r
  · cases (show u = Value.ref a from r)
    exact lst_reads I xs p h2 h1
end

/-! ### == and != -/
def eqOkD (d e : D) : Bool := plD d && plD e && sgD d && sgD e && Nat.ble (min (depD d) (depD e)) 150
def eqF (neg : Bool) : AV → AV → M → Out RV := fun a b m => match treeOf m a, treeOf m b with
  | some d, some e => match eqOkD d e with
    | true => okD (.bl (neg != eqvD d e)) m
    | false => .stuck
  | _, _ => .stuck
def rEqT (C : Com) (neg : Bool) : R2 := fun x y H Q => ∃ d e, TreeV C H d x ∧ TreeV C H e y ∧ eqOkD d e = true ∧ Q (.bl (neg != eqvD d e)) H
section
variable {C : Com} {N : List Str} {sc : Scope} {k : Nat}
theorem imp_eq (neg : Bool) : Imp2 C (eqF neg) (rEqT C neg) := by
  constructor
  intro W σ H ι m m0 ι0 H0 a b v u Q rl ha hb ex q
  unfold eqF at q
  cases ea : treeOf m a with
  | none => rw [ea] at q; exact q.elim
  | some d =>
    cases eb : treeOf m b with
    | none => rw [ea, eb] at q; exact q.elim
    | some e =>
      rw [ea, eb] at q
      have q' : OkR C W σ H ι m m0 ι0 H0 Q (match eqOkD d e with
        | true => okD (.bl (neg != eqvD d e)) m
        | false => .stuck) := q
      cases eo : eqOkD d e with
      | false => rw [eo] at q'; exact q'.elim
      | true =>
        rw [eo] at q'
        exact ⟨d, e, tree_of rl ha ea, tree_of rl hb eb, eo, okT rl q' rfl⟩
theorem eq_parts {d e : D} (h : eqOkD d e = true) : plD d = true ∧ plD e = true ∧ sgD d = true ∧ sgD e = true ∧ min (depD d) (depD e) ≤ 150 := by
  unfold eqOkD at h
  simp only [Bool.and_eq_true] at h
  exact ⟨h.1.1.1.1, h.1.1.1.2, h.1.1.2, h.1.2, Nat.le_of_ble_eq_true h.2⟩
theorem op_eqT {X : Cx} (B : Bd C N sc k X) : OpR X (compareOp .Eq) (rEqT C false) := by
  intro pins s σ H x y v u Q I rx ry h
  obtain ⟨d, e, hd, he, ok, q⟩ := h
  obtain ⟨p1, p2, p3, p4, p5⟩ := eq_parts ok
  obtain ⟨as, r1⟩ := hd.reads I p1 rx
  obtain ⟨bs, r2⟩ := he.reads I p2 ry
  have hu := B.room.un
  refine SeqAt.compareEq_reads r1 r2 (lay_toP d p1 p3) (lay_toP e p2 p4) (by rw [dep_toP, dep_toP]; omega) ⟨.bl _, H, I, rfl, ?_⟩
  rw [eqv_toP d e p1 p2]
  simpa using q
theorem op_neT {X : Cx} (B : Bd C N sc k X) : OpR X (compareOp .NotEq) (rEqT C true) := by
  intro pins s σ H x y v u Q I rx ry h
  obtain ⟨d, e, hd, he, ok, q⟩ := h
  obtain ⟨p1, p2, p3, p4, p5⟩ := eq_parts ok
  obtain ⟨as, r1⟩ := hd.reads I p1 rx
  obtain ⟨bs, r2⟩ := he.reads I p2 ry
  have hu := B.room.un
  refine SeqAt.compareNe_reads r1 r2 (lay_toP d p1 p3) (lay_toP e p2 p4) (by rw [dep_toP, dep_toP]; omega) ⟨.bl _, H, I, rfl, ?_⟩
  rw [eqv_toP d e p1 p2]
  simpa using q

/-! ### in, not in -/
def mapAll {α β : Type} (f : α → Option β) : List α → Option (List β)
  | [] => some []
  | x :: xs => match f x, mapAll f xs with
    | some y, some ys => some (y :: ys)
    | _, _ => none
def inSeq (neg : Bool) (d : D) (xs : List D) : Out D := match plDs xs && plD d && Nat.ble (depD d) 100 && Nat.ble (depDs xs) 100 with
  | true => .ok (.bl (neg != xs.any fun x => eqvD x d)) ⟨[], [], 0⟩
  | false => .stuck
def inF (neg : Bool) : AV → AV → M → Out RV := fun a b m => match a with
  | .t d => match b with
    | .t (.str z) => match d with
      | .str [c] => okD (.bl (neg != decide (c ∈ z))) m
      | _ => .stuck
    | b => match seqOf m b with
      | some xs => match plDs xs && plD d && Nat.ble (depD d) 100 && Nat.ble (depDs xs) 100 with
        | true => okD (.bl (neg != xs.any fun x => eqvD x d)) m
        | false => .stuck
      | none => .stuck
  | _ => .stuck
def rInT (C : Com) (neg : Bool) : R2 := fun x y H Q => (∃ (c : Nat) (z : List Nat), x = .str (mkS [c]) ∧ y = .str (mkS z) ∧ Q (.bl (neg != decide (c ∈ z))) H) ∨
  ∃ d xs p vs, Den C H d x ∧ y = .ref p ∧ (SqL C.K H p vs ∨ SqT C.K H p vs) ∧ Dens C H xs vs ∧ plDs xs = true ∧ plD d = true ∧ depD d ≤ 100 ∧ depDs xs ≤ 100 ∧ Q (.bl (neg != xs.any fun x => eqvD x d)) H
theorem imp_in (neg : Bool) : Imp2 C (inF neg) (rInT C neg) := by
  constructor
  intro W σ H ι m m0 ι0 H0 a b v u Q rl ha hb ex q
  cases a with
  | b n => exact q.elim
  | s i => exact q.elim
  | t d =>
    have go : ∀ b : AV, AVR C ι H m.S.length b u → OkR C W σ H ι m m0 ι0 H0 Q (match seqOf m b with
      | some xs => match plDs xs && plD d && Nat.ble (depD d) 100 && Nat.ble (depDs xs) 100 with
        | true => okD (.bl (neg != xs.any fun x => eqvD x d)) m
        | false => .stuck
      | none => .stuck) → rInT C neg v u H Q := fun b hb q => by
      cases es : seqOf m b with
      | none => rw [es] at q; exact q.elim
      | some xs =>
        rw [es] at q
        have q' : OkR C W σ H ι m m0 ι0 H0 Q (match plDs xs && plD d && Nat.ble (depD d) 100 && Nat.ble (depDs xs) 100 with
          | true => okD (.bl (neg != xs.any fun x => eqvD x d)) m
          | false => .stuck) := q
        cases eo : plDs xs && plD d && Nat.ble (depD d) 100 && Nat.ble (depDs xs) 100 with
        | false => rw [eo] at q'; exact q'.elim
        | true =>
          rw [eo] at q'
          simp only [Bool.and_eq_true] at eo
          obtain ⟨p, vs, ev, h1, h2⟩ := seq_of rl hb es
          exact .inr ⟨d, xs, p, vs, ha, ev, h1, h2, eo.1.1.1, eo.1.1.2, Nat.le_of_ble_eq_true eo.1.2, Nat.le_of_ble_eq_true eo.2, okT rl q' rfl⟩
    cases b with
    | b n => exact go _ hb q
    | s i => exact go _ hb q
    | t e =>
      cases e with
      | str z =>
        cases d with
        | str x =>
          cases x with
          | nil => exact q.elim
          | cons c r =>
            cases r with
            | nil => exact .inl ⟨c, z, ha, hb, okT rl q rfl⟩
            | cons _ _ => exact q.elim
        | _ => exact q.elim
      | _ => exact go _ hb q
def backV : Value → V
  | .bool b => .bl b
  | .int i _ => .int i
  | .str x _ => .str x
  | .ref a => .ref a
  | _ => .non
theorem den_back {H : Hp} {d : D} {v : V} {u : Value} (h : Den C H d v) (p : plD d = true) (r : RelV v u) : v = backV u := by
  cases d with
  | non => cases (show v = .non from h); cases (show u = Value.none from r); rfl
  | bl b => cases (show v = .bl b from h); cases (show u = Value.bool b from r); rfl
  | int b => cases (show v = .int b from h); obtain ⟨t, rfl⟩ := r; rfl
  | str b => cases (show v = .str (mkS b) from h); obtain ⟨t, rfl⟩ := r; rfl
  | tup xs => obtain ⟨a, vs, rfl, _⟩ := h; cases (show u = Value.ref a from r); rfl
  | lst xs => obtain ⟨a, o, vs, rfl, _⟩ := h; cases (show u = Value.ref a from r); rfl
  | dic _ => cases p
  | ins _ _ => cases p
  | kls _ => cases p
theorem den_rel {H : Hp} {d d' : D} {v v' : V} {u : Value} (h : Den C H d v) (h' : Den C H d' v') (p : plD d = true) (p' : plD d' = true) (r : RelV v u) (r' : RelV v' u) : v = v' := (den_back h p r).trans (den_back h' p' r').symm
/-- which item of the sequence is meant -/
noncomputable def hit (C : Com) (H : Hp) (d : D) (y : Value) : Bool := @decide (∃ e w, plD e = true ∧ Den C H e w ∧ RelV w y ∧ eqvD e d = true) (Classical.propDecidable _)
theorem hit_of {H : Hp} {d e : D} {w : V} {y : Value} (p : plD e = true) (h : Den C H e w) (r : RelV w y) : hit C H d y = eqvD e d := by
  unfold hit
  cases q : eqvD e d with
  | true => exact @decide_eq_true _ (Classical.propDecidable _) ⟨e, w, p, h, r, q⟩
  | false =>
    refine @decide_eq_false _ (Classical.propDecidable _) fun ⟨e', w', p', h', r', q'⟩ => ?_
    have ew := den_rel h' h p' p r' r
    subst ew
    rw [Den.inj _ _ _ p' p h' h, q] at q'
    cases q'
theorem any_arr {f : Value → Bool} {l : List Value} : l.toArray.any f = l.any f := by simp
theorem any_hit {H : Hp} {d : D} : ∀ {xs : List D} {vs : List V} {us : List Value}, plDs xs = true → Dens C H xs vs → Vals vs us → us.any (hit C H d) = xs.any fun x => eqvD x d
  | [], _, _, _, h, r => by
    cases (show _ = [] from h)
    cases r
    rfl
  | x :: xs, _, _, p, h, r => by
    obtain ⟨v, vs, rfl, h1, h2⟩ := h
    have p' := Bool.and_eq_true_iff.mp (show (plD x && plDs xs) = true from p)
    cases r with
    | cons r1 r2 => rw [List.any_cons, List.any_cons, hit_of p'.1 h1 r1, any_hit p'.2 h2 r2]
theorem mem_hit {X : Cx} {pins : List (Addr × Obj)} {σ : L2.St} {H : Hp} {s : Shared} (I : L2.Inv X pins σ H s) {A : Around} {d : D} {x : V} {v : Value} (pd : plD d = true) (hd : Den C H d x) (rx : RelV x v) (hu : A.units + 102 < cLine) :
    ∀ {xs : List D} {vs : List V} {us : List Value}, plDs xs = true → depDs xs ≤ 100 → Dens C H xs vs → Vals vs us → ∀ y ∈ us, SeqAt.EqAt A s y v (hit C H d y)
  | [], _, _, _, _, h, r => by
    cases (show _ = [] from h)
    cases r
    intro y hy; cases hy
  | z :: xs, _, _, p, hdp, h, r => by
    obtain ⟨w, vs, rfl, h1, h2⟩ := h
    have p' := Bool.and_eq_true_iff.mp (show (plD z && plDs xs) = true from p)
    have hdp' : max (depD z) (depDs xs) ≤ 100 := hdp
    cases r with
    | cons r1 r2 =>
      intro y hy
      rcases List.mem_cons.mp hy with rfl | hy
      · rw [hit_of p'.1 h1 r1]
        exact eq_at I 100 A z d w x y v (by omega) (by omega) h1 hd r1 rx p'.1 pd
      · exact mem_hit I pd hd rx hu p'.2 (by omega) h2 r2 y hy
theorem op_inT {X : Cx} (B : Bd C N sc k X) : OpR X (compareOp .In) (rInT C false) := by
  intro pins s σ H x y v u Q I rx ry h
  have hu := B.room.un
  have e := B.com
  subst e
  rcases h with ⟨c, z, rfl, rfl, q⟩ | ⟨d, xs, p, vs, hd, rfl, hq, hv, p1, p2, p3, p4, q⟩
  · exact op_in_sign pins s σ H _ _ v u Q I rx ry ⟨c, mkS z, rfl, rfl, by simpa [mkS] using q⟩
  · cases (show u = Value.ref p from ry)
    rcases hq with hq | hq
    · obtain ⟨its, r, pl, hz⟩ := I.list hq
      refine SeqAt.in_listAt (hit _ H d) pl.isList (fun w hw => mem_hit (A := X.A.in1) I p2 hd rx (by rw [in1_units]; omega) p1 p4 hv r w (by simpa using hw)) ⟨.bl _, H, I, rfl, ?_⟩
      rw [any_arr, any_hit p1 hv r]
      simpa using q
    · obtain ⟨its, r, pl, hz⟩ := I.tuple hq
      refine SeqAt.in_tupleAt (hit _ H d) pl (fun w hw => mem_hit (A := X.A.in1) I p2 hd rx (by rw [in1_units]; omega) p1 p4 hv r w (by simpa using hw)) ⟨.bl _, H, I, rfl, ?_⟩
      rw [any_arr, any_hit p1 hv r]
      simpa using q
theorem op_notInT {X : Cx} (B : Bd C N sc k X) : OpR X (compareOp .NotIn) (rInT C true) := by
  intro pins s σ H x y v u Q I rx ry h
  have hu := B.room.un
  have e := B.com
  subst e
  rcases h with ⟨c, z, rfl, rfl, q⟩ | ⟨d, xs, p, vs, hd, rfl, hq, hv, p1, p2, p3, p4, q⟩
  · exact op_notIn_sign pins s σ H _ _ v u Q I rx ry ⟨c, mkS z, rfl, rfl, by simpa [mkS] using q⟩
  · cases (show u = Value.ref p from ry)
    rcases hq with hq | hq
    · obtain ⟨its, r, pl, hz⟩ := I.list hq
      refine SeqAt.notIn_listAt (hit _ H d) pl.isList (fun w hw => mem_hit (A := X.A.in1) I p2 hd rx (by rw [in1_units]; omega) p1 p4 hv r w (by simpa using hw)) ⟨.bl _, H, I, rfl, ?_⟩
      rw [any_arr, any_hit p1 hv r]
      simpa using q
    · obtain ⟨its, r, pl, hz⟩ := I.tuple hq
      refine SeqAt.notIn_tupleAt (hit _ H d) pl (fun w hw => mem_hit (A := X.A.in1) I p2 hd rx (by rw [in1_units]; omega) p1 p4 hv r w (by simpa using hw)) ⟨.bl _, H, I, rfl, ?_⟩
      rw [any_arr, any_hit p1 hv r]
      simpa using q
end
end BL
end part_BLm

section part_BLn
set_option Elab.async false
set_option linter.all false
set_option maxRecDepth 100000
set_option maxHeartbeats 4000000
set_option autoImplicit false
/-! BLn: + and * of sequences; isinstance; len, int, list, tuple, sum, max, all, any. -/
namespace BL
open PySem PySem.Spec PyProof.Rows L2

section
variable {X : Cx} {pins : List (Addr × Obj)} {σ : L2.St} {H : Hp} {s : Shared}
/-- a list that is read, frozen or not, in the machine's heap -/
theorem lst_raw (I : L2.Inv X pins σ H s) {l : Addr} {xs : List V} (h : Rd H l (.lst xs)) : xs.length ≤ sizeLine ∧ ∃ (its : List Value) (n : Nat), Vals xs its ∧ s.heap.get? l = some { cls := .type "list", data := .seq its.toArray n } := by
  rcases h with h | ⟨o, h⟩
  · exact (show ObjOk X.prog X.w H s.heap l (.lst xs) from I.hok l _ h)
  · exact (show ObjOk X.prog X.w H s.heap l (.frz o (.lst xs)) from I.hok l _ h).2
def rCatL : R2 := fun x y H Q => ∃ l b xs zs, x = .ref l ∧ y = .ref b ∧ Rd H l (.lst xs) ∧ Rd H b (.lst zs) ∧ xs.length + zs.length ≤ sizeLine ∧ ∀ p, H p = none → Q (.ref p) (upd H p (.lst (xs ++ zs)))
theorem op_catL : OpR X (binaryOp .Add) rCatL := by
  intro pins s σ H x y v u Q I rx ry ⟨l, b, xs, zs, ex, ey, h1, h2, hz, q⟩
  subst ex
  subst ey
  cases (show v = Value.ref l from rx)
  cases (show u = Value.ref b from ry)
  obtain ⟨_, its, n, r, e⟩ := lst_raw I h1
  obtain ⟨_, its2, n2, r2, e2⟩ := lst_raw I h2
  have k1 := r.length
  have k2 := r2.length
  refine PySem.P.add_list (items := its.toArray) (items2 := its2.toArray) e e2 ?_ (by simp only [List.size_toArray]; omega)
  rw [show its.toArray ++ its2.toArray = (its ++ its2).toArray from by rw [List.append_toArray]]
  have I2 := I.lnew (t' := s.toks) (r.append r2) (by simp only [List.length_append]; exact hz)
  exact ⟨.ref s.heap.objs.size, _, I2, rfl, q _ I.fresh⟩
def rRepL : R2 := fun x y H Q => ∃ l k xs, x = .ref l ∧ y = .int k ∧ Rd H l (.lst xs) ∧ 0 ≤ k ∧ k ≤ 1000000 ∧ xs.length * k.toNat ≤ sizeLine ∧ ∀ p, H p = none → Q (.ref p) (upd H p (.lst (List.replicate k.toNat xs).flatten))
theorem fold_rep (its : List Value) (k : Nat) : List.foldl (fun x1 x2 => x1 ++ x2) #[] (List.replicate (if its.toArray.isEmpty = true then 0 else k) its.toArray) = (List.replicate k its).flatten.toArray := by
  have f0 := foldl_rep its k []
  rw [List.nil_append] at f0
  cases its with
  | nil =>
    have z : (List.replicate k ([] : List Value)).flatten = [] := by simp
    rw [z]; rfl
  | cons a r =>
    rw [if_neg (by simp)]
    exact f0
theorem op_repL : OpR X (binaryOp .Mult) rRepL := by
  intro pins s σ H x y v u Q I rx ry ⟨l, k, xs, ex, ey, h1, k0, k1, hz, q⟩
  subst ex
  subst ey
  cases (show v = Value.ref l from rx)
  obtain ⟨t, eu⟩ := ry
  subst eu
  obtain ⟨_, its, n, r, e⟩ := lst_raw I h1
  have hl := r.length
  have hs : its.toArray.size * k.toNat ≤ sizeLine := by rw [List.size_toArray, ← hl]; exact hz
  have c1 : ¬ (!Builtin.List.listFitsIndex k) = true := by rw [fitsIndex_both (by omega) (by omega)]; decide
  have c2 : ¬ its.toArray.size * k.toNat > (2 ^ 63 - 1) / 8 := by rw [sizeLine_eq] at hs; omega
  have c3 : ¬ Builtin.List.listTooLong (its.toArray.size * k.toNat) = true := by rw [notLongL hs]; decide
  have st := AutoListH.list___mul___list_int_3 l its.toArray n k t c1 c2 c3
  have T : s.TypeIs (.ref l) "list" := ⟨_, e, rfl⟩
  refine wpAny_binaryOp_repeat_ref (T := "list") (U := "int") (by decide) T (fun s' => typeIs_int s' k t) noFill_list_mul F.fills_int_mul F.slot_int_rmul repeat_list F.slot_int_index.lookup ?_
  refine call_meets F.slot_int_rmul (typeIs_int s k t) F.entry_int_rmul (F.args_int_rmul_2 _ _) (int___rmul___int_list k t l its.toArray n) ⟨e, rfl, T, ?_⟩
  refine call_meets F.slot_list_mul T F.entry_list_mul (F.args_list_mul_2 _ _) st ⟨e, ?_⟩
  rw [fold_rep]
  refine ⟨.ref s.heap.objs.size, _, I.lnew (t' := s.toks) (r.rep k.toNat) ?_, rfl, q _ I.fresh⟩
  rw [PyProof.Rows.lm_len_rep_flat, Nat.mul_comm]
  exact hz
end

/-! ### + by the kinds of both -/
def lstCat : AV → AV → M → Out RV := fun a b m => match lstOf m a, lstOf m b with
  | some xs, some ys => match Nat.blt (xs.length + ys.length) lim with
    | true => .ok (.own (.lst (xs ++ ys))) m
    | false => .stuck
  | _, _ => .stuck
def tupCat (xs ys : List D) : M → Out RV := fun m => match Nat.blt (xs.length + ys.length) lim with
  | true => okD (.tup (xs ++ ys)) m
  | false => .stuck
def addF : AV → AV → M → Out RV := fun a b m => match a, b with
  | .t (.int i), .t (.int j) => okD (.int (i + j)) m
  | .t (.str x), .t (.str y) => match Nat.blt (x.length + y.length) lim with
    | true => okD (.str (x ++ y)) m
    | false => .stuck
  | .t (.tup xs), .t (.tup ys) => tupCat xs ys m
  | a, b => lstCat a b m
def lstRep : AV → Int → M → Out RV := fun a k m => match lstOf m a with
  | some xs => match decide (0 ≤ k) && decide (k ≤ 1000000) && Nat.blt (xs.length * k.toNat) lim with
    | true => .ok (.own (.lst (List.replicate k.toNat xs).flatten)) m
    | false => .stuck
  | none => .stuck
def mulF : AV → AV → M → Out RV := fun a b m => match b with
  | .t (.int j) => match a with
    | .t (.int i) => match smallI i || smallI j with
      | true => okD (.int (i * j)) m
      | false => .stuck
    | a => lstRep a j m
  | _ => .stuck
abbrev rAddAll (K : PySem.W.Frag) : R2 := fun x y H Q => rI0 (fun i j => .int (i + j)) x y H Q ∨ ((∃ i j, x = .str i ∧ y = .str j ∧ i.length + j.length ≤ sizeLine ∧ Q (.str (i ++ j)) H) ∨ (rCatA K x y H Q ∨ rCatL x y H Q))
abbrev rMulAll : R2 := fun x y H Q => rI CMul (fun i j => .int (i * j)) x y H Q ∨ rRepL x y H Q
section
variable {C : Com} {W : WX} {σ : L2.St} {H : Hp} {ι : Sum Nat Nat → Addr} {m m0 : M} {ι0 : Sum Nat Nat → Addr} {H0 : Hp} {Q : VK}
theorem imp_lstCat {a b : AV} {v u : V} (rl : Rel C ι σ H m) (ha : AVR C ι H m.S.length a v) (hb : AVR C ι H m.S.length b u) (ex : ExtE m0 ι0 H0 m ι H) (q : OkR C W σ H ι m m0 ι0 H0 Q (lstCat a b m)) : rCatL v u H Q := by
  unfold lstCat at q
  cases ea : lstOf m a with
  | none => rw [ea] at q; exact q.elim
  | some xs =>
    cases eb : lstOf m b with
    | none => rw [ea, eb] at q; exact q.elim
    | some ys =>
      rw [ea, eb] at q
      have q' : OkR C W σ H ι m m0 ι0 H0 Q (match Nat.blt (xs.length + ys.length) lim with
        | true => .ok (.own (.lst (xs ++ ys))) m
        | false => .stuck) := q
      cases eo : Nat.blt (xs.length + ys.length) lim with
      | false => rw [eo] at q'; exact q'.elim
      | true =>
        rw [eo] at q'
        obtain ⟨p, vs, ev, h1, h2⟩ := lst_of rl ha ea
        obtain ⟨p', vs', ev', h1', h2'⟩ := lst_of rl hb eb
        exact ⟨p, p', vs, vs', ev, ev', h1, h1', by rw [h2.length, h2'.length]; exact Nat.le_of_lt (lim_line eo), newL rl ex q' (h2.append h2')⟩
theorem dens_rep {xs : List D} {vs : List V} (h : Dens C H xs vs) : ∀ k : Nat, Dens C H (List.replicate k xs).flatten (List.replicate k vs).flatten
  | 0 => rfl
  | k + 1 => by
    rw [List.replicate_succ, List.replicate_succ, List.flatten_cons, List.flatten_cons]
    exact h.append (dens_rep h k)
theorem imp_lstRep {a : AV} {k : Int} {v : V} (rl : Rel C ι σ H m) (ha : AVR C ι H m.S.length a v) (ex : ExtE m0 ι0 H0 m ι H) (q : OkR C W σ H ι m m0 ι0 H0 Q (lstRep a k m)) : rRepL v (.int k) H Q := by
  unfold lstRep at q
  cases ea : lstOf m a with
  | none => rw [ea] at q; exact q.elim
  | some xs =>
    rw [ea] at q
    have q' : OkR C W σ H ι m m0 ι0 H0 Q (match decide (0 ≤ k) && decide (k ≤ 1000000) && Nat.blt (xs.length * k.toNat) lim with
      | true => .ok (.own (.lst (List.replicate k.toNat xs).flatten)) m
      | false => .stuck) := q
    cases eo : decide (0 ≤ k) && decide (k ≤ 1000000) && Nat.blt (xs.length * k.toNat) lim with
    | false => rw [eo] at q'; exact q'.elim
    | true =>
      rw [eo] at q'
      simp only [Bool.and_eq_true, decide_eq_true_eq] at eo
      obtain ⟨p, vs, ev, h1, h2⟩ := lst_of rl ha ea
      exact ⟨p, k, vs, ev, rfl, h1, eo.1.1, eo.1.2, by rw [h2.length]; exact Nat.le_of_lt (lim_line eo.2), newL rl ex q' (dens_rep h2 _)⟩
theorem imp_addF : Imp2 C addF (rAddAll C.K) := by
  constructor
  intro W σ H ι m m0 ι0 H0 a b v u Q rl ha hb ex q
  unfold addF at q
  split at q
  · rename_i i j
    exact .inl ⟨i, j, ha, hb, okT rl q rfl⟩
  · rename_i x y
    split at q
    · rename_i eo
      refine .inr (.inl ⟨mkS x, mkS y, ha, hb, ?_, okT rl q ?_⟩)
      · rw [mkS_len, mkS_len]; exact Nat.le_of_lt (lim_line eo)
      · rw [mkS_app]; rfl
    · exact q.elim
  · rename_i xs ys
    unfold tupCat at q
    split at q
    · rename_i eo
      obtain ⟨p, vs, ev, h1, h2⟩ := id ha
      obtain ⟨p', vs', ev', h1', h2'⟩ := id hb
      have l1 := h2.length
      have l2 := h2'.length
      refine .inr (.inr (.inl ⟨p, p', vs, vs', ev, ev', SqT.of h1, SqT.of h1', by rw [l1, l2]; exact Nat.le_of_lt (lim_line eo), fun e0 => okT rl q ?_, fun _ e1 => okT rl q ?_, fun _ _ => newT rl q (h2.append h2')⟩))
      · subst e0
        have : xs = [] := List.eq_nil_of_length_eq_zero (by simpa using l1.symm)
        subst this
        rw [← ev']; exact hb
      · subst e1
        have : ys = [] := List.eq_nil_of_length_eq_zero (by simpa using l2.symm)
        subst this
        rw [← ev, List.append_nil]; exact ha
    · exact q.elim
  · exact .inr (.inr (.inr (imp_lstCat rl ha hb ex q)))
theorem imp_mulF : Imp2 C mulF rMulAll := by
  constructor
  intro W σ H ι m m0 ι0 H0 a b v u Q rl ha hb ex q
  unfold mulF at q
  split at q
  · rename_i j
    have eu : u = .int j := hb
    subst eu
    split at q
    · rename_i i
      split at q
      · rename_i h
        refine .inl ⟨i, j, ha, rfl, ?_, okT rl q rfl⟩
        rcases Bool.or_eq_true_iff.mp h with h | h
        · exact .inl (smallI_ok h)
        · exact .inr (smallI_ok h)
      · exact q.elim
    · exact .inr (imp_lstRep rl ha ex q)
  · exact q.elim
end
section
variable {C : Com} {N : List Str} {sc : Scope} {k : Nat} {pos : Pos} {a b : Expr} {F G : Ex AV}
theorem SE.add (ha : SA C N sc k a F) (hb : SA C N sc k b G) : SE C N sc k (.BinOp a .Add b pos) (e2 addF F G) :=
  SE.op ha hb (fun X B => by have := B.com; subst this; exact op_add.or (op_add_str.or (op_catA.or op_catL))) imp_addF
theorem SE.mul (ha : SA C N sc k a F) (hb : SA C N sc k b G) : SE C N sc k (.BinOp a .Mult b pos) (e2 mulF F G) :=
  SE.op ha hb (fun X B => op_mul.or op_repL) imp_mulF
theorem SE.eq (ha : SA C N sc k a F) (hb : SA C N sc k b G) (hm : behindInMarks .Eq b = false) : SE C N sc k (.Compare a [.Eq] [b] pos) (e2 (eqF false) F G) := SE.cmp ha hb (fun X B => op_eqT B) (imp_eq false) hm
theorem SE.ne (ha : SA C N sc k a F) (hb : SA C N sc k b G) (hm : behindInMarks .NotEq b = false) : SE C N sc k (.Compare a [.NotEq] [b] pos) (e2 (eqF true) F G) := SE.cmp ha hb (fun X B => op_neT B) (imp_eq true) hm
theorem SE.in (ha : SA C N sc k a F) (hb : SA C N sc k b G) (hm : behindInMarks .In b = false) : SE C N sc k (.Compare a [.In] [b] pos) (e2 (inF false) F G) := SE.cmp ha hb (fun X B => op_inT B) (imp_in false) hm
theorem SE.notIn (ha : SA C N sc k a F) (hb : SA C N sc k b G) (hm : behindInMarks .NotIn b = false) : SE C N sc k (.Compare a [.NotIn] [b] pos) (e2 (inF true) F G) := SE.cmp ha hb (fun X B => op_notInT B) (imp_in true) hm
end
end BL
end part_BLn

section part_BLo
set_option Elab.async false
set_option linter.all false
set_option maxRecDepth 100000
set_option maxHeartbeats 4000000
set_option autoImplicit false
/-! BLo: isinstance; len, int, list, tuple, sum, max, min, all, any. -/
namespace BL
open PySem PySem.Spec PyProof.Rows L2

/-! ### isinstance of a built-in type -/
inductive Ty where
  | non | bl | int | str | tup | lst | dic
def Ty.nm : Ty → String
  | .non => "NoneType"
  | .bl => "bool"
  | .int => "int"
  | .str => "str"
  | .tup => "tuple"
  | .lst => "list"
  | .dic => "dict"
/-- a thing of the kind a is one of the kind b -/
def Ty.sub : Ty → Ty → Bool
  | .non, .non => true
  | .bl, .bl => true
  | .bl, .int => true
  | .int, .int => true
  | .str, .str => true
  | .tup, .tup => true
  | .lst, .lst => true
  | .dic, .dic => true
  | _, _ => false
theorem Ty.kit (a b : Ty) : kitB a.nm b.nm = some (a.sub b) := by cases a <;> cases b <;> decide +kernel
def tyD : D → Option Ty
  | .non => some .non
  | .bl _ => some .bl
  | .int _ => some .int
  | .str _ => some .str
  | .tup _ => some .tup
  | .lst _ => some .lst
  | .dic _ => some .dic
  | .ins _ _ => none
  | .kls _ => none
def tyC : Cell → Option Ty
  | .lst _ => some .lst
  | .lsa _ => some .lst
  | .dic _ => some .dic
  | .dia _ => some .dic
  | .ins _ _ => none
def tyOf (m : M) : AV → Option Ty
  | .t d => tyD d
  | a => (cellAt m a).bind tyC
def isiF (T : Ty) : AV → M → Out RV := fun a m => match tyOf m a with
  | some t => okD (.bl (t.sub T)) m
  | none => .stuck
section
variable {C : Com} {N : List Str} {sc : Scope} {k : Nat} {e : Expr} {p pos tp : Pos} {F : Ex AV}
/-- a dict with keys of texts and ints, or with keys of tuples, frozen: its type -/
inductive TyY (K : PySem.W.Frag) (H : Hp) : V → Value → Prop where
  | x {v : V} {t : Value} (h : TyX K H v t) : TyY K H v t
  | fDicT {a : Addr} {o : Obj} {kvs : List (List Key × V)} (e : H a = some (.frz o (.dT kvs))) : TyY K H (.ref a) (.type "dict")
theorem ty_cell {m : M} {σ : L2.St} {H : Hp} {ι : Sum Nat Nat → Addr} {x : Sum Nat Nat} {c : Cell} {t : Ty} {K : PySem.W.Frag} (rl : Rel C ι σ H m) (hl : live m x = some c) (et : tyC c = some t) : TyX K H (.ref (ι x)) (.type t.nm) := by
  have q := rl.cell x c hl
  cases c with
  | lst xs => cases et; obtain ⟨vs, h1, _⟩ := q; exact .base (.lst h1)
  | lsa xs => cases et; obtain ⟨vs, h1, _⟩ := q; exact .base (.lst h1)
  | dic xs =>
    cases et
    obtain ⟨kv, h1, _⟩ := q
    exact .base (.dK h1)
  | dia xs => cases et; obtain ⟨vs, h1, _⟩ := q; exact .base (.dK h1)
  | ins _ _ => cases et
theorem ty_den {H : Hp} {d : D} {v : V} {t : Ty} {K : PySem.W.Frag} (h : Den C H d v) (et : tyD d = some t) : TyY K H v (.type t.nm) := by
  cases d with
  | non => cases et; cases (show v = .non from h); exact .x (.base .non)
  | bl b => cases et; cases (show v = .bl b from h); exact .x (.base (.bl _))
  | int b => cases et; cases (show v = .int b from h); exact .x (.base (.int _))
  | str b => cases et; cases (show v = .str (mkS b) from h); exact .x (.base (.str _))
  | tup xs => cases et; obtain ⟨a, vs, rfl, h1, _⟩ := h; exact .x (.base (.tup h1))
  | lst xs => cases et; obtain ⟨a, o, vs, rfl, h1, _⟩ := h; exact .x (.base (.frz h1))
  | dic xs =>
    cases et
    obtain ⟨a, o, kv, rfl, h1, _⟩ := h
    exact .x (.fDict h1)
  | ins _ _ => cases et
  | kls _ => cases et
theorem kit_dt {X : Cx} {pins : List (Addr × Obj)} {σ : L2.St} {H : Hp} {s : Shared} {x : V} {u t : Value} (I : L2.Inv X pins σ H s) (rx : RelV x u) (ty : TyY X.K H x t) : ∃ P : Heap → Prop, PySem.W.KitX X.K u t P ∧ P s.heap ∧ u ≠ .builtin "__main__.__loader__#opaque" := by
  cases ty with
  | x h => exact kit_of I rx h
  | @fDicT a o kvs e =>
    cases (show u = Value.ref a from rx)
    obtain ⟨_, _, _, xs, _, ob, es, ep, h1, h2, _⟩ := (show ObjOk X.prog X.w H s.heap a (.frz o (.dT kvs)) from I.hok a _ e)
    exact ⟨_, PySem.W.kitx_dict, ⟨ob, h1, h2.1⟩, fun z => nomatch z⟩
def rIsiT (K : PySem.W.Frag) (T : Ty) : List V → Hp → VK → Prop := fun xs H Q => ∃ (x : V) (t : Ty), xs = [x, .ty T.nm] ∧ TyY K H x (.type t.nm) ∧ Q (.bl (t.sub T)) H
theorem call_isiTy {X : Cx} {T : Ty} : CallR X (.builtin "isinstance") (rIsiT X.K T) := by
  intro pins s σ H xs us Q I r h
  obtain ⟨x, t, rfl, ty, q⟩ := h
  obtain ⟨u1, u2, rfl, r1, r2⟩ := vals2 r
  cases (show u2 = Value.type T.nm from r2)
  obtain ⟨P, Z, p, hx⟩ := kit_dt I r1 ty
  exact PySem.W.kia_one Z I.kIn p (kit_ty (Ty.kit t T)) hx fun tk => ⟨.bl _, H, I.tok tk, rfl, q⟩
theorem SE.isi {x y : Str} {T : Ty} (hg : glB sc x = true) (hm : C.mg x = none) (hv : bootBuiltins x = some (.builtin "isinstance")) (hgT : glB sc y = true) (hmT : C.mg y = none) (hvT : bootBuiltins y = some (.type T.nm)) (ha : SA C N sc k e F)
    (hn : x ≠ "__name__") (hdb : (x == ("__debug__" : Str)) = false) (hnT : y ≠ "__name__") (hdbT : (y == ("__debug__" : Str)) = false)
    (he : ∀ env : Env, starEach [e, .Name y tp] env = (false, eval e env) :: starEach [.Name y tp] env) (he2 : ∀ env : Env, starEach [.Name y tp] env = (false, eval (.Name y tp) env) :: starEach [] env) (hpl : ∀ env : Env, (backTo pos (starEach [.Name y tp] env)).any (·.1) = false) :
    SE C N sc k (.Call (.Name x p) [e, .Name y tp] [] pos) (e1 (isiF T) F) := by
  refine ⟨fun X W B tk => ?_⟩
  have eC := B.com
  subst eC
  have pT := pe_bltn (X := X) (pos := tp) (v := .ty T.nm) (gl_of B hgT) hmT hvT rfl hnT hdbT
  refine pe_imp (pe_callB (call_isiTy (T := T)) (gl_of B hg) hm hv (pa_cons (ha.run X W B tk) (pa_cons pT pa_nil (he2 _)) (he _)) hn hdb (he _) (hpl _)) fun σ H Q ⟨ι, m, rl, q⟩ => ⟨ι, m, rl, ?_⟩
  refine OkO.bind q fun a m1 ι1 H1 v eq ex r1 ra q1 => ?_
  have q1' : OkR _ W σ H1 ι1 m1 m ι H Q (match tyOf m1 a with
    | some t => okD (.bl (t.sub T)) m1
    | none => .stuck) := q1
  cases et : tyOf m1 a with
  | none => rw [et] at q1'; exact q1'.elim
  | some t =>
    rw [et] at q1'
    refine ⟨v, t, rfl, ?_, okT r1 q1' rfl⟩
    have go : (cellAt m1 a).bind tyC = some t → TyY X.K H1 v (.type t.nm) := fun et => by
      obtain ⟨c, hc, e2⟩ := Option.bind_eq_some_iff.mp et
      obtain ⟨z, hl, ev⟩ := cell_at r1 ra hc
      subst ev
      exact .x (ty_cell r1 hl e2)
    cases a with
    | t d => exact ty_den ra et
    | b n => exact go et
    | s i => exact go et

/-! ### calls of built-ins -/
def lenF : List AV → M → Out RV := fun as m => match as with
  | [.t (.str x)] => match Nat.blt x.length lim with
    | true => okD (.int x.length) m
    | false => .stuck
  | [a] => match seqOf m a with
    | some xs => okD (.int xs.length) m
    | none => .stuck
  | _ => .stuck
theorem avrs1 {ι : Sum Nat Nat → Addr} {H : Hp} {n : Nat} {a : AV} {vs : List V} (h : AVRs C ι H n [a] vs) : ∃ v, vs = [v] ∧ AVR C ι H n a v := by
  obtain ⟨v, r, rfl, h1, h2⟩ := h
  cases (show r = [] from h2)
  exact ⟨v, rfl, h1⟩
theorem avrs2 {ι : Sum Nat Nat → Addr} {H : Hp} {n : Nat} {a b : AV} {vs : List V} (h : AVRs C ι H n [a, b] vs) : ∃ v w, vs = [v, w] ∧ AVR C ι H n a v ∧ AVR C ι H n b w := by
  obtain ⟨v, r, rfl, h1, h2⟩ := h
  obtain ⟨w, rfl, h3⟩ := avrs1 h2
  exact ⟨v, w, rfl, h1, h3⟩
theorem imp_len : ImpL C lenF (fun xs H Q => ∃ x n, xs = [x] ∧ LenV C.K x H n ∧ Q (.int n) H) := by
  constructor
  intro W σ H ι m m0 ι0 H0 as vs Q rl ra ex q
  unfold lenF at q
  split at q
  · rename_i x
    obtain ⟨v, rfl, h1⟩ := avrs1 ra
    cases (show v = .str (mkS x) from h1)
    split at q
    · rename_i eo
      exact ⟨_, x.length, rfl, ⟨by rw [mkS_len]; exact Nat.le_of_lt (lim_line eo), (mkS_len x).symm⟩, okT rl q rfl⟩
    · exact q.elim
  · rename_i a _
    obtain ⟨v, rfl, h1⟩ := avrs1 ra
    cases es : seqOf m a with
    | none => rw [es] at q; exact q.elim
    | some xs =>
      rw [es] at q
      obtain ⟨p, ws, rfl, h2, h3⟩ := seq_of rl h1 es
      refine ⟨_, xs.length, rfl, ?_, okT rl q rfl⟩
      rcases h2 with h2 | h2
      · exact .inl ⟨ws, h2, h3.length.symm⟩
      · exact .inr ⟨ws, h2, h3.length.symm⟩
  · exact q.elim
def intF : List AV → M → Out RV := fun as m => match as with
  | [.t (.int i)] => okD (.int i) m
  | [.t (.bl b)] => okD (.int (if b then 1 else 0)) m
  | _ => .stuck
theorem imp_int : ImpL C intF (fun xs H Q => (∃ i, xs = [.int i] ∧ Q (.int i) H) ∨ ∃ k, xs = [.bl k] ∧ Q (.int (if k then 1 else 0)) H) := by
  constructor
  intro W σ H ι m m0 ι0 H0 as vs Q rl ra ex q
  unfold intF at q
  split at q
  · obtain ⟨v, rfl, h1⟩ := avrs1 ra
    cases (show v = .int _ from h1)
    exact .inl ⟨_, rfl, okT rl q rfl⟩
  · obtain ⟨v, rfl, h1⟩ := avrs1 ra
    cases (show v = .bl _ from h1)
    exact .inr ⟨_, rfl, okT rl q rfl⟩
  · exact q.elim
/-- a new list of the items -/
def listF : List AV → M → Out RV := fun as m => match as with
  | [.t (.str x)] => match Nat.blt x.length lim with
    | true => .ok (.own (.lst (x.map fun c => .str [c]))) m
    | false => .stuck
  | [a] => match seqOf m a with
    | some xs => .ok (.own (.lst xs)) m
    | none => .stuck
  | _ => .stuck
def tupleF : List AV → M → Out RV := fun as m => match as with
  | [a] => match seqOf m a with
    | some xs => okD (.tup xs) m
    | none => .stuck
  | _ => .stuck
theorem imp_tuple : ImpL C tupleF (fun xs H Q => ∃ p ys, xs = [.ref p] ∧ ((SqL C.K H p ys ∧ ∀ l, H l = none → Q (.ref l) (upd H l (.tup ys))) ∨ (SqT C.K H p ys ∧ Q (.ref p) H))) := by
  constructor
  intro W σ H ι m m0 ι0 H0 as vs Q rl ra ex q
  unfold tupleF at q
  split at q
  · rename_i a
    obtain ⟨v, rfl, h1⟩ := avrs1 ra
    cases es : seqOf m a with
    | none => rw [es] at q; exact q.elim
    | some xs =>
      rw [es] at q
      have lst : ∀ {a : AV}, AVR C ι H m.S.length a v → lstOf m a = some xs → ∃ p ys, [v] = [V.ref p] ∧ ((SqL C.K H p ys ∧ ∀ l, H l = none → Q (.ref l) (upd H l (.tup ys))) ∨ (SqT C.K H p ys ∧ Q (.ref p) H)) := fun {a} h1 es => by
        obtain ⟨p, ws, rfl, h2, h3⟩ := lst_of rl h1 es
        exact ⟨p, ws, rfl, .inl ⟨.inl h2, newT rl q h3⟩⟩
      cases a with
      | t d =>
        cases d with
        | tup ys =>
          cases es
          obtain ⟨p, ws, rfl, h2, h3⟩ := id h1
          exact ⟨p, ws, rfl, .inr ⟨SqT.of h2, okT rl q h1⟩⟩
        | kls ys =>
          cases es
          obtain ⟨p, ws, rfl, h2, h3⟩ := id h1
          refine ⟨p, ws, rfl, .inl ⟨?_, newT rl q h3⟩⟩
          rcases h2 with ⟨o, h2⟩ | h2
          · exact .inl (.inr ⟨o, h2⟩)
          · exact .inr h2
        | _ => exact lst h1 es
      | b n => exact lst h1 es
      | s i => exact lst h1 es
  · exact q.elim
def intsOf : List D → Option (List Int)
  | [] => some []
  | .int i :: r => match intsOf r with
    | some is => some (i :: is)
    | none => none
  | _ :: _ => none
def blsOf : List D → Option (List Bool)
  | [] => some []
  | .bl i :: r => match blsOf r with
    | some is => some (i :: is)
    | none => none
  | _ :: _ => none
theorem ints_den {H : Hp} : ∀ {xs : List D} {is : List Int} {vs : List V}, intsOf xs = some is → Dens C H xs vs → vs = is.map V.int
  | [], is, vs, e, h => by cases e; exact h
  | .int i :: r, is, vs, e, h => by
    unfold intsOf at e
    cases q : intsOf r with
    | none => rw [q] at e; cases e
    | some js =>
      rw [q] at e; cases e
      obtain ⟨v, r', rfl, h1, h2⟩ := h
      rw [ints_den q h2, show v = .int i from h1]
      rfl
  | .non :: r, _, _, e, _ => by cases e
  | .bl _ :: r, _, _, e, _ => by cases e
  | .str _ :: r, _, _, e, _ => by cases e
  | .tup _ :: r, _, _, e, _ => by cases e
  | .lst _ :: r, _, _, e, _ => by cases e
  | .dic _ :: r, _, _, e, _ => by cases e
  | .ins _ _ :: r, _, _, e, _ => by cases e
  | .kls _ :: r, _, _, e, _ => by cases e
theorem bls_den {H : Hp} : ∀ {xs : List D} {is : List Bool} {vs : List V}, blsOf xs = some is → Dens C H xs vs → vs = is.map V.bl
  | [], is, vs, e, h => by cases e; exact h
  | .bl i :: r, is, vs, e, h => by
    unfold blsOf at e
    cases q : blsOf r with
    | none => rw [q] at e; cases e
    | some js =>
      rw [q] at e; cases e
      obtain ⟨v, r', rfl, h1, h2⟩ := h
      rw [bls_den q h2, show v = .bl i from h1]
      rfl
  | .non :: r, _, _, e, _ => by cases e
  | .int _ :: r, _, _, e, _ => by cases e
  | .str _ :: r, _, _, e, _ => by cases e
  | .tup _ :: r, _, _, e, _ => by cases e
  | .lst _ :: r, _, _, e, _ => by cases e
  | .dic _ :: r, _, _, e, _ => by cases e
  | .ins _ _ :: r, _, _, e, _ => by cases e
  | .kls _ :: r, _, _, e, _ => by cases e
/-- a list of ints by f -/
def lintF (f : List Int → Option Int) : List AV → M → Out RV := fun as m => match as with
  | [a] => match (lstOf m a).bind intsOf with
    | some is => okD? ((f is).map .int) m
    | none => .stuck
  | _ => .stuck
def lblF (f : List Bool → Bool) : List AV → M → Out RV := fun as m => match as with
  | [a] => match (lstOf m a).bind blsOf with
    | some is => okD (.bl (f is)) m
    | none => .stuck
  | _ => .stuck
def greatest : List Int → Option Int
  | [] => none
  | i :: r => some (r.foldl max i)
def least : List Int → Option Int
  | [] => none
  | i :: r => some (r.foldl min i)
theorem imp_lint {f : List Int → Option Int} {r : List V → Hp → VK → Prop} (hf : ∀ (H : Hp) (a : Addr) (ns : List Int) (i : Int) (Q : VK), SqL C.K H a (ns.map V.int) → f ns = some i → Q (.int i) H → r [V.ref a] H Q) : ImpL C (lintF f) r := by
  constructor
  intro W σ H ι m m0 ι0 H0 as vs Q rl ra ex q
  unfold lintF at q
  split at q
  · rename_i a
    obtain ⟨v, rfl, h1⟩ := avrs1 ra
    cases es : (lstOf m a).bind intsOf with
    | none => rw [es] at q; exact q.elim
    | some is =>
      rw [es] at q
      obtain ⟨xs, e1, e2⟩ := Option.bind_eq_some_iff.mp es
      obtain ⟨p, ws, rfl, h2, h3⟩ := lst_of rl h1 e1
      have q' : OkR C W σ H ι m m0 ι0 H0 Q (okD? ((f is).map D.int) m) := q
      cases ef : f is with
      | none => rw [ef] at q'; exact q'.elim
      | some i =>
        rw [ef] at q'
        exact hf H p is i Q (by rw [← ints_den e2 h3]; exact .inl h2) ef (okT rl q' rfl)
  · exact q.elim
theorem imp_lbl {f : List Bool → Bool} {r : List V → Hp → VK → Prop} (hf : ∀ (H : Hp) (a : Addr) (ns : List Bool) (Q : VK), SqL C.K H a (ns.map V.bl) → Q (.bl (f ns)) H → r [V.ref a] H Q) : ImpL C (lblF f) r := by
  constructor
  intro W σ H ι m m0 ι0 H0 as vs Q rl ra ex q
  unfold lblF at q
  split at q
  · rename_i a
    obtain ⟨v, rfl, h1⟩ := avrs1 ra
    cases es : (lstOf m a).bind blsOf with
    | none => rw [es] at q; exact q.elim
    | some is =>
      rw [es] at q
      obtain ⟨xs, e1, e2⟩ := Option.bind_eq_some_iff.mp es
      obtain ⟨p, ws, rfl, h2, h3⟩ := lst_of rl h1 e1
      exact hf H p is Q (by rw [← bls_den e2 h3]; exact .inl h2) (okT rl q rfl)
  · exact q.elim
theorem imp_sum : ImpL C (lintF fun is => some is.sum) (rSum C.K) := imp_lint fun H a ns i Q h1 h2 h3 => by cases h2; exact ⟨a, ns, rfl, h1, h3⟩
theorem foldmax : ∀ (r : List Int) (i : Int), i ≤ r.foldl max i ∧ (∀ x ∈ r, x ≤ r.foldl max i) ∧ (r.foldl max i = i ∨ r.foldl max i ∈ r)
  | [], i => ⟨Int.le_refl _, (fun x h => by cases h), .inl rfl⟩
  | j :: r, i => by
    obtain ⟨h1, h2, h3⟩ := foldmax r (max i j)
    refine ⟨?_, fun x hx => ?_, ?_⟩
    · show i ≤ r.foldl max (max i j); omega
    · show x ≤ r.foldl max (max i j)
      rcases List.mem_cons.mp hx with rfl | hx
      · omega
      · exact h2 x hx
    · show r.foldl max (max i j) = i ∨ r.foldl max (max i j) ∈ j :: r
      rcases h3 with h3 | h3
      · rw [h3]
        by_cases e : i ≤ j
        · right; rw [show max i j = j by omega]; exact List.mem_cons_self
        · left; omega
      · exact .inr (List.mem_cons_of_mem _ h3)
theorem foldmin : ∀ (r : List Int) (i : Int), r.foldl min i ≤ i ∧ (∀ x ∈ r, r.foldl min i ≤ x) ∧ (r.foldl min i = i ∨ r.foldl min i ∈ r)
  | [], i => ⟨Int.le_refl _, (fun x h => by cases h), .inl rfl⟩
  | j :: r, i => by
    obtain ⟨h1, h2, h3⟩ := foldmin r (min i j)
    refine ⟨?_, fun x hx => ?_, ?_⟩
    · show r.foldl min (min i j) ≤ i; omega
    · show r.foldl min (min i j) ≤ x
      rcases List.mem_cons.mp hx with rfl | hx
      · omega
      · exact h2 x hx
    · show r.foldl min (min i j) = i ∨ r.foldl min (min i j) ∈ j :: r
      rcases h3 with h3 | h3
      · rw [h3]
        by_cases e : j ≤ i
        · right; rw [show min i j = j by omega]; exact List.mem_cons_self
        · left; omega
      · exact .inr (List.mem_cons_of_mem _ h3)
theorem imp_max : ImpL C (lintF greatest) (rMax C.K) := imp_lint fun H a ns i Q h1 h2 h3 => by
  cases ns with
  | nil => cases h2
  | cons j r =>
    cases h2
    obtain ⟨k1, k2, k3⟩ := foldmax r j
    refine ⟨a, j :: r, rfl, h1, Nat.succ_pos _, fun m hm hall => ?_⟩
    have e : m = r.foldl max j := by
      refine Int.le_antisymm ?_ ?_
      · rcases List.mem_cons.mp hm with rfl | hm
        · exact k1
        · exact k2 m hm
      · rcases k3 with k3 | k3
        · rw [k3]; exact hall j List.mem_cons_self
        · exact hall _ (List.mem_cons_of_mem _ k3)
    rw [e]; exact h3
theorem imp_min : ImpL C (lintF least) (rMin C.K) := imp_lint fun H a ns i Q h1 h2 h3 => by
  cases ns with
  | nil => cases h2
  | cons j r =>
    cases h2
    obtain ⟨k1, k2, k3⟩ := foldmin r j
    refine ⟨a, j :: r, rfl, h1, Nat.succ_pos _, fun m hm hall => ?_⟩
    have e : m = r.foldl min j := by
      refine Int.le_antisymm ?_ ?_
      · rcases k3 with k3 | k3
        · rw [k3]; exact hall j List.mem_cons_self
        · exact hall _ (List.mem_cons_of_mem _ k3)
      · rcases List.mem_cons.mp hm with rfl | hm
        · exact k1
        · exact k2 m hm
    rw [e]; exact h3
theorem imp_all : ImpL C (lblF fun bs => bs.all id) (rAll C.K) := imp_lbl fun H a ns Q h1 h2 => ⟨a, ns, rfl, h1, h2⟩
theorem imp_any : ImpL C (lblF fun bs => bs.any id) (rAny C.K) := imp_lbl fun H a ns Q h1 h2 => ⟨a, ns, rfl, h1, h2⟩
def int2F (f : Int → Int → Int) : List AV → M → Out RV := fun as m => match as with
  | [.t (.int i), .t (.int j)] => okD (.int (f i j)) m
  | _ => .stuck
theorem imp_int2 (f : Int → Int → Int) : ImpL C (int2F f) (fun xs H Q => ∃ i j, xs = [.int i, .int j] ∧ Q (.int (f i j)) H) := by
  constructor
  intro W σ H ι m m0 ι0 H0 as vs Q rl ra ex q
  unfold int2F at q
  split at q
  · obtain ⟨v, w, rfl, h1, h2⟩ := avrs2 ra
    cases (show v = .int _ from h1)
    cases (show w = .int _ from h2)
    exact ⟨_, _, rfl, okT rl q rfl⟩
  · exact q.elim
end
end BL
end part_BLo

section part_BLp
set_option Elab.async false
set_option linter.all false
set_option maxRecDepth 100000
set_option maxHeartbeats 4000000
set_option autoImplicit false
/-! BLp: what changes a cell: methods of lists, x[i] = v. -/
namespace BL
open PySem PySem.Spec PyProof.Rows L2

def putC (m : M) : Sum Nat Nat → Cell → M
  | .inl i, c => { m with σ := m.σ.set i (some (SV.own c)) }
  | .inr n, c => { m with S := m.S.set n c }
/-- the cell that may be written -/
def wrAt (m : M) : AV → Option (Sum Nat Nat × Cell)
  | .t _ => none
  | .b n => match m.S[n]? with
    | some c => some (.inr n, c)
    | none => none
  | .s i => match m.σ[i]? with
    | some (some (SV.own c)) => some (.inl i, c)
    | _ => none
/-- references out of the cell do not rise above it, unless the cell is the def's own -/
def boxOk (m : M) : Sum Nat Nat → Cell → Bool
  | .inl _, _ => true
  | .inr n, c => c.box.all (fun k => Nat.ble k n) || Nat.ble m.base n
section
variable {C : Com} {W : WX} {σ : L2.St} {H : Hp} {ι : Sum Nat Nat → Addr} {m m0 : M} {ι0 : Sum Nat Nat → Addr} {H0 : Hp} {Q : VK}
theorem live_put {x y : Sum Nat Nat} {c c' c2 : Cell} (h : live (putC m x c') y = some c2) : (y = x ∧ c2 = c') ∨ (y ≠ x ∧ live m y = some c2) := by
  cases x with
  | inl i =>
    cases y with
    | inr n => exact .inr ⟨nofun, h⟩
    | inl j =>
      by_cases e : i = j
      · subst e
        refine .inl ⟨rfl, ?_⟩
        unfold live putC at h
        by_cases hl : i < m.σ.length
        · simp only [List.getElem?_set_self hl] at h
          cases h; rfl
        · simp only [List.getElem?_eq_none (show (m.σ.set i (some (SV.own c'))).length ≤ i by simpa using hl)] at h
          cases h
      · refine .inr ⟨fun q => e (by cases q; rfl), ?_⟩
        unfold live putC at h
        simp only [List.getElem?_set_ne e] at h
        exact h
  | inr n =>
    cases y with
    | inl j => exact .inr ⟨nofun, h⟩
    | inr k =>
      have h' : (m.S.set n c')[k]? = some c2 := h
      by_cases e : n = k
      · subst e
        refine .inl ⟨rfl, ?_⟩
        by_cases hl : n < m.S.length
        · rw [List.getElem?_set_self hl] at h'; cases h'; rfl
        · rw [List.getElem?_eq_none (by simpa using hl)] at h'; cases h'
      · rw [List.getElem?_set_ne e] at h'
        exact .inr ⟨fun q => e (by cases q; rfl), h'⟩
theorem wr_live {a : AV} {x : Sum Nat Nat} {c : Cell} (h : wrAt m a = some (x, c)) : live m x = some c := by
  unfold wrAt at h
  split at h
  · cases h
  · split at h
    · cases h; assumption
    · cases h
  · split at h
    · cases h; exact live_own (by assumption)
    · cases h
theorem wr_val {a : AV} {x : Sum Nat Nat} {c : Cell} {n : Nat} {v : V} (h : wrAt m a = some (x, c)) (r : AVR C ι H n a v) : v = .ref (ι x) := by
  unfold wrAt at h
  split at h
  · cases h
  · split at h
    · cases h; exact r.2
    · cases h
  · split at h
    · cases h; exact r
    · cases h
theorem put_len {x : Sum Nat Nat} {c : Cell} : (putC m x c).S.length = m.S.length := by
  cases x with
  | inl i => rfl
  | inr n => exact List.length_set
theorem put_rel {x : Sum Nat Nat} {a : AV} {c c' : Cell} {u : HO} (rl : Rel C ι σ H m) (hw : wrAt m a = some (x, c)) (hc : CellR C ι (upd H (ι x) u) m.S.length (ι x) c') (hs : c'.hasS = false) : Rel C ι σ (upd H (ι x) u) (putC m x c') := by
  have hl := wr_live hw
  obtain ⟨o, ho, ch, _⟩ := (rl.cell x c hl).there
  have mo : Mono H (upd H (ι x) u) := Mono.put ho ch
  refine ⟨?_, fun i a h => ?_, fun i c2 h => ?_, fun y c2 h => ?_, fun y c2 h => ?_, fun y z c2 c3 hy hz e => ?_, by rw [put_len]; cases x <;> exact rl.low⟩
  · cases x with
    | inl i => simpa [putC] using rl.len
    | inr n => exact rl.len
  · have h' : m.σ[i]? = some (some (SV.av a)) := by
      cases x with
      | inr n => exact h
      | inl j =>
        unfold putC at h
        by_cases e : j = i
        · subst e
          exfalso
          by_cases hl : j < m.σ.length
          · simp only [List.getElem?_set_self hl] at h; cases h
          · simp only [List.getElem?_eq_none (show (m.σ.set j (some (SV.own c'))).length ≤ j by simpa using hl)] at h; cases h
        · simp only [List.getElem?_set_ne e] at h
          exact h
    obtain ⟨h0, v, h1, h2⟩ := rl.slot i a h'
    exact ⟨h0, v, h1, by rw [put_len]; exact h2.mono mo .refl (Nat.le_refl _)⟩
  · rcases live_put (c := c) h with ⟨e, _⟩ | ⟨_, h2⟩
    · subst e; exact rl.slotO i c hl
    · exact rl.slotO i c2 h2
  · rw [put_len]
    rcases live_put (c := c) h with ⟨e, e2⟩ | ⟨ne, h2⟩
    · subst e; subst e2; exact hc
    · exact (rl.cell y c2 h2).mono mo .refl (Nat.le_refl _) (upd_ne fun e => ne (rl.inj _ _ _ _ h2 hl e))
  · rcases live_put (c := c) h with ⟨e, e2⟩ | ⟨_, h2⟩
    · subst e2; exact hs
    · exact rl.noS y c2 h2
  · rcases live_put (c := c) hy with ⟨ey, _⟩ | ⟨_, hy⟩
    · rcases live_put (c := c) hz with ⟨ez, _⟩ | ⟨_, hz⟩
      · rw [ey, ez]
      · rw [ey]; exact rl.inj _ _ _ _ hl hz (by rw [← ey]; exact e)
    · rcases live_put (c := c) hz with ⟨ez, _⟩ | ⟨_, hz⟩
      · rw [ez]; exact rl.inj _ _ _ _ hy hl (by rw [← ez]; exact e)
      · exact rl.inj _ _ _ _ hy hz e
theorem put_ext {x : Sum Nat Nat} {a : AV} {c c' : Cell} {u : HO} (rl : Rel C ι σ H m) (hw : wrAt m a = some (x, c)) (hb : boxOk m x c' = true) : ExtE m ι H (putC m x c') ι (upd H (ι x) u) := by
  have hl := wr_live hw
  obtain ⟨o, ho, ch, _⟩ := (rl.cell x c hl).there
  have e := ExtE.put (m := m) (w := u) ho ch ⟨x, c, hl, rfl⟩
  refine ⟨⟨e.mono, fun b ob hb nl => ⟨(e.keep b ob hb nl).1, fun ⟨y, c2, hy, q⟩ => ?_⟩, fun _ _ => rfl, by rw [put_len]; exact Nat.le_refl _, e.there, by cases x <;> rfl, fun b hbb bl => ?_⟩, fun _ => rfl⟩
  · rcases live_put (c := c) hy with ⟨ey, _⟩ | ⟨_, hy⟩
    · exact nl ⟨x, c, hl, by rw [← ey]; exact q⟩
    · exact nl ⟨y, c2, hy, q⟩
  · cases x with
    | inl i => exact bl
    | inr n =>
      intro j c2 k hj hk hjb
      have hj' : (m.S.set n c')[j]? = some c2 := hj
      by_cases en : n = j
      · subst en
        have e2 : c2 = c' := by
          by_cases hln : n < m.S.length
          · rw [List.getElem?_set_self hln] at hj'; cases hj'; rfl
          · rw [List.getElem?_eq_none (by simpa using hln)] at hj'; cases hj'
        subst e2
        unfold boxOk at hb
        rcases Bool.or_eq_true_iff.mp hb with hb | hb
        · have := Nat.le_of_ble_eq_true (List.all_eq_true.mp hb k hk)
          omega
        · have := Nat.le_of_ble_eq_true hb
          omega
      · rw [List.getElem?_set_ne en] at hj'
        exact bl j c2 k hj' hk hjb
/-- a list of trees is rewritten, v comes back -/
theorem put_lst {x : Sum Nat Nat} {a : AV} {d : D} {v : V} {ds : List D} {zs : List V} {c : Cell} (rl : Rel C ι σ H m) (hw : wrAt m a = some (x, c)) (hd : Dens C H ds zs) (hv : Den C H d v) (q : OkR C W σ H ι m m0 ι0 H0 Q (.ok (.av (.t d)) (putC m x (.lst ds)))) : Q v (upd H (ι x) (.lst zs)) := by
  have hl := wr_live hw
  obtain ⟨o, ho, ch, _⟩ := (rl.cell x c hl).there
  have mo : Mono H (upd H (ι x) (.lst zs)) := Mono.put ho ch
  refine q ι _ v (put_ext rl hw ?_) (put_rel rl hw ⟨zs, upd_same, Dens.mono mo _ _ hd⟩ rfl) (Den.mono mo _ _ hv)
  cases x <;> simp [boxOk, Cell.box]
end

/-! ### methods of lists -/
/-- the list that may be written -/
def wrL (m : M) (a : AV) : Option (Sum Nat Nat × List D) := match wrAt m a with
  | some (x, .lst xs) => some (x, xs)
  | _ => none
theorem wrL_ok {m : M} {a : AV} {x : Sum Nat Nat} {xs : List D} (h : wrL m a = some (x, xs)) : wrAt m a = some (x, .lst xs) := by
  unfold wrL at h
  split at h
  · cases h; assumption
  · cases h
def nonM (m : M) : Out RV := .ok (.av (.t .non)) m
def appF : AV → List AV → M → Out RV := fun a as m => match as with
  | [.t d] => match wrL m a with
    | some (x, xs) => match Nat.blt xs.length lim with
      | true => nonM (putC m x (.lst (xs ++ [d])))
      | false => .stuck
    | none => .stuck
  | _ => .stuck
def popF : AV → List AV → M → Out RV := fun a as m => match as with
  | [] => match wrL m a with
    | some (x, xs) => match xs[xs.length - 1]? with
      | some d => .ok (.av (.t d)) (putC m x (.lst xs.dropLast))
      | none => .stuck
    | none => .stuck
  | _ => .stuck
def popAtF : AV → List AV → M → Out RV := fun a as m => match as with
  | [.t (.int i)] => match wrL m a with
    | some (x, xs) => match Nat.blt xs.length lim, ixN xs.length i with
      | true, some k => match xs[k]? with
        | some d => .ok (.av (.t d)) (putC m x (.lst (xs.eraseIdx k)))
        | none => .stuck
      | _, _ => .stuck
    | none => .stuck
  | _ => .stuck
def extF : AV → List AV → M → Out RV := fun a as m => match as with
  | [.t (.lst ys)] => match wrL m a with
    | some (x, xs) => match Nat.blt (xs.length + ys.length) lim with
      | true => nonM (putC m x (.lst (xs ++ ys)))
      | false => .stuck
    | none => .stuck
  | _ => .stuck
def revF : AV → List AV → M → Out RV := fun a as m => match as with
  | [] => match wrL m a with
    | some (x, xs) => nonM (putC m x (.lst xs.reverse))
    | none => .stuck
  | _ => .stuck
def insF : AV → List AV → M → Out RV := fun a as m => match as with
  | [.t (.int i), .t d] => match wrL m a with
    | some (x, xs) => match Nat.blt xs.length lim && (decide (0 ≤ i) && decide (i < 2 ^ 63)) with
      | true => nonM (putC m x (.lst (xs.take i.toNat ++ [d] ++ xs.drop i.toNat)))
      | false => .stuck
    | none => .stuck
  | _ => .stuck
section
variable {C : Com}
theorem avrs0 {ι : Sum Nat Nat → Addr} {H : Hp} {n : Nat} {vs : List V} (h : AVRs C ι H n [] vs) : vs = [] := h
theorem wr_cell {σ : L2.St} {H : Hp} {ι : Sum Nat Nat → Addr} {m : M} {a : AV} {v : V} {x : Sum Nat Nat} {xs : List D} (rl : Rel C ι σ H m) (ra : AVR C ι H m.S.length a v) (h : wrL m a = some (x, xs)) :
    ∃ vs, v = .ref (ι x) ∧ H (ι x) = some (.lst vs) ∧ Dens C H xs vs := by
  have hw := wrL_ok h
  obtain ⟨vs, h1, h2⟩ := rl.cell x _ (wr_live hw)
  exact ⟨vs, wr_val hw ra, h1, h2⟩
theorem imp_app : ImpM C appF rAppend := by
  constructor
  intro W σ H ι m m0 ι0 H0 a v as vs Q rl ra rs ex q
  unfold appF at q
  split at q
  case h_2 => exact q.elim
  rename_i d
  obtain ⟨w, rfl, hw⟩ := avrs1 rs
  split at q
  case h_2 => exact q.elim
  rename_i x xs ew
  split at q
  case h_2 => exact q.elim
  rename_i eo
  obtain ⟨zs, rfl, h1, h2⟩ := wr_cell rl ra ew
  exact ⟨_, zs, w, rfl, rfl, h1, by rw [h2.length]; exact lim_line eo, put_lst (d := .non) rl (wrL_ok ew) (h2.append (Dens.one hw)) rfl q⟩
theorem Dens.dropLast {H : Hp} {ds : List D} {vs : List V} (h : Dens C H ds vs) : Dens C H ds.dropLast vs.dropLast := by
  rw [List.dropLast_eq_take, List.dropLast_eq_take, h.length]
  exact h.take _
theorem Dens.eraseIdx {H : Hp} : ∀ {ds : List D} {vs : List V} (k : Nat), Dens C H ds vs → Dens C H (ds.eraseIdx k) (vs.eraseIdx k)
  | [], _, k, h => by cases (show _ = [] from h); rfl
  | d :: ds, _, 0, h => by
    obtain ⟨v, r, rfl, _, h2⟩ := h
    exact h2
  | d :: ds, _, k + 1, h => by
    obtain ⟨v, r, rfl, h1, h2⟩ := h
    exact ⟨v, _, rfl, h1, Dens.eraseIdx k h2⟩
theorem imp_pop : ImpM C popF rPop := by
  constructor
  intro W σ H ι m m0 ι0 H0 a v as vs Q rl ra rs ex q
  unfold popF at q
  split at q
  case h_2 => exact q.elim
  cases avrs0 rs
  split at q
  case h_2 => exact q.elim
  rename_i x xs ew
  split at q
  case h_2 => exact q.elim
  rename_i d ed
  obtain ⟨zs, rfl, h1, h2⟩ := wr_cell rl ra ew
  obtain ⟨w, h3, h4⟩ := h2.get ed
  exact ⟨_, zs, w, rfl, rfl, h1, by rw [h2.length]; exact h3, put_lst rl (wrL_ok ew) h2.dropLast h4 q⟩
theorem imp_popAt : ImpM C popAtF rPopAt := by
  constructor
  intro W σ H ι m m0 ι0 H0 a v as vs Q rl ra rs ex q
  unfold popAtF at q
  split at q
  case h_2 => exact q.elim
  rename_i i
  obtain ⟨w, rfl, hw⟩ := avrs1 rs
  cases (show w = .int i from hw)
  split at q
  case h_2 => exact q.elim
  rename_i x xs ew
  split at q
  case h_2 => exact q.elim
  rename_i k eb ek
  split at q
  case h_2 => exact q.elim
  rename_i d ed
  obtain ⟨k1, k2, k3, k4⟩ := ixN_seq ek
  have kl : xs.length < 1000000 := Nat.le_of_ble_eq_true eb
  obtain ⟨zs, rfl, h1, h2⟩ := wr_cell rl ra ew
  obtain ⟨w, h3, h4⟩ := h2.get ed
  exact ⟨_, zs, i, k, w, rfl, rfl, h1, by omega, by omega, by rw [h2.length]; exact k1, h3, put_lst rl (wrL_ok ew) (h2.eraseIdx k) h4 q⟩
theorem imp_rev : ImpM C revF rReverse := by
  constructor
  intro W σ H ι m m0 ι0 H0 a v as vs Q rl ra rs ex q
  unfold revF at q
  split at q
  case h_2 => exact q.elim
  cases avrs0 rs
  split at q
  case h_2 => exact q.elim
  rename_i x xs ew
  obtain ⟨zs, rfl, h1, h2⟩ := wr_cell rl ra ew
  exact ⟨_, zs, rfl, rfl, h1, put_lst (d := .non) rl (wrL_ok ew) h2.reverse rfl q⟩
theorem imp_ins : ImpM C insF (fun x vs H Q => ∃ (l : Addr) (xs : List V) (i : Int) (y : V), x = .ref l ∧ vs = [.int i, y] ∧ H l = some (.lst xs) ∧ xs.length < sizeLine ∧ 0 ≤ i ∧ i < 2 ^ 63 ∧ Q .non (upd H l (.lst (xs.take i.toNat ++ [y] ++ xs.drop i.toNat)))) := by
  constructor
  intro W σ H ι m m0 ι0 H0 a v as vs Q rl ra rs ex q
  unfold insF at q
  split at q
  case h_2 => exact q.elim
  rename_i i d
  obtain ⟨w, w2, rfl, hw, hw2⟩ := avrs2 rs
  cases (show w = .int i from hw)
  split at q
  case h_2 => exact q.elim
  rename_i x xs ew
  split at q
  case h_2 => exact q.elim
  rename_i eo
  simp only [Bool.and_eq_true, decide_eq_true_eq] at eo
  obtain ⟨zs, rfl, h1, h2⟩ := wr_cell rl ra ew
  exact ⟨_, zs, i, w2, rfl, rfl, h1, by rw [h2.length]; exact lim_line eo.1, eo.2.1, eo.2.2, put_lst (d := .non) rl (wrL_ok ew) (((h2.take _).append (Dens.one hw2)).append (h2.drop _)) rfl q⟩

/-! ### o[i] = v -/
def setLF : AV → AV → AV → M → Out Unit := fun o i v m => match i, v with
  | .t (.int k), .t d => match wrL m o with
    | some (x, xs) => match ixN xs.length k with
      | some j => .ok () (putC m x (.lst (xs.set j d)))
      | none => .stuck
    | none => .stuck
  | _, _ => .stuck
structure ImpSet (C : Com) (f : AV → AV → AV → M → Out Unit) (r : V → V → V → Hp → (Hp → Prop) → Prop) : Prop where
  ok : ∀ {W : WX} {σ : L2.St} {H : Hp} {ι : Sum Nat Nat → Addr} {m : M} {o i a : AV} {ov iv v : V} {Q : Hp → Prop},
    Rel C ι σ H m → AVR C ι H m.S.length o ov → AVR C ι H m.S.length i iv → AVR C ι H m.S.length a v → OkO C W (fun _ _ _ _ (_ : Unit) => True) σ H ι m (fun _ H' => Q H') (f o i a m) → r ov iv v H Q
theorem imp_setL : ImpSet C setLF rSetL := by
  constructor
  intro W σ H ι m o i a ov iv v Q rl ho hi ha q
  unfold setLF at q
  split at q
  case h_2 => exact q.elim
  rename_i k d
  cases (show iv = .int k from hi)
  split at q
  case h_2 => exact q.elim
  rename_i x xs ew
  split at q
  case h_2 => exact q.elim
  rename_i j ej
  obtain ⟨zs, rfl, h1, h2⟩ := wr_cell rl ho ew
  refine ⟨_, zs, k, j, rfl, rfl, h1, by rw [h2.length]; exact ej, ?_⟩
  have hw := wrL_ok ew
  have mo : Mono H (upd H (ι x) (.lst (zs.set j v))) := Mono.put h1 trivial
  exact q ι _ () (put_ext rl hw (by cases x <;> simp [boxOk, Cell.box])) (put_rel rl hw ⟨_, upd_same, Dens.mono mo _ _ (h2.set ha j)⟩ rfl) trivial
end
end BL
end part_BLp

section part_BLq
set_option Elab.async false
set_option linter.all false
set_option maxRecDepth 100000
set_option maxHeartbeats 4000000
set_option autoImplicit false
/-! BLq: targets; what is walked; for; comprehensions. -/
namespace BL
open PySem PySem.Spec PyProof.Rows L2

theorem takes_no {X : Cx} : L2.Takes X (fun _ _ _ _ => False) := fun _ _ h => by
  obtain ⟨_, _, _, _, _, _, _, _, _, _, _, _, _, _, _, _, w⟩ := h
  exact w.elim

/-! ### slots wiped -/
def wipeL (s : List (Option SV)) : List Nat → List (Option SV)
  | [] => s
  | v :: vs => (wipeL s vs).set v none
def wipeM (vs : List Nat) (m : M) : M := { m with σ := wipeL m.σ vs }
theorem wipeL_len (s : List (Option SV)) : ∀ vs, (wipeL s vs).length = s.length
  | [] => rfl
  | v :: vs => by
    show ((wipeL s vs).set v none).length = _
    rw [List.length_set, wipeL_len s vs]
theorem wipeL_some {s : List (Option SV)} {i : Nat} {x : SV} : ∀ {vs : List Nat}, (wipeL s vs)[i]? = some (some x) → s[i]? = some (some x) ∧ i ∉ vs
  | [], h => ⟨h, by simp⟩
  | v :: vs, h => by
    have h' : ((wipeL s vs).set v none)[i]? = some (some x) := h
    by_cases e : v = i
    · subst e
      exfalso
      by_cases hl : v < (wipeL s vs).length
      · rw [List.getElem?_set_self hl] at h'; cases h'
      · rw [List.getElem?_eq_none (by simpa using hl)] at h'; cases h'
    · rw [List.getElem?_set_ne e] at h'
      obtain ⟨h1, h2⟩ := wipeL_some h'
      refine ⟨h1, fun q => ?_⟩
      rcases List.mem_cons.mp q with rfl | q
      · exact e rfl
      · exact h2 q
/-- the machine's slots are as they were, out of vs -/
structure Out2 (vs : List Nat) (σ σ' : L2.St) : Prop where
  len : σ'.length = σ.length
  same : ∀ j, j ∉ vs → σ'[j]? = σ[j]?
theorem Out2.refl {vs : List Nat} {σ : L2.St} : Out2 vs σ σ := ⟨rfl, fun _ _ => rfl⟩
theorem Out2.trans {vs : List Nat} {σ σ' σ'' : L2.St} (a : Out2 vs σ σ') (b : Out2 vs σ' σ'') : Out2 vs σ σ'' := ⟨b.len.trans a.len, fun j h => (b.same j h).trans (a.same j h)⟩
theorem Out2.symm {vs : List Nat} {σ σ' : L2.St} (a : Out2 vs σ σ') : Out2 vs σ' σ := ⟨a.len.symm, fun j h => (a.same j h).symm⟩
theorem Out2.more {vs ws : List Nat} {σ σ' : L2.St} (a : Out2 vs σ σ') (h : ∀ j ∈ vs, j ∈ ws) : Out2 ws σ σ' := ⟨a.len, fun j q => a.same j fun z => q (h j z)⟩
theorem Out2.ofWipe (vs : List Nat) (σ : L2.St) : Out2 vs σ (wipe σ vs) := ⟨wipe_length σ vs, fun j h => wipe_out h⟩
theorem wipe_in {σ : L2.St} {j : Nat} : ∀ {vs : List Nat}, j ∈ vs → (wipe σ vs)[j]? = if j < σ.length then some none else none
  | [], h => by cases h
  | v :: vs, h => by
    show ((wipe σ vs).set v none)[j]? = _
    by_cases e : v = j
    · subst e
      by_cases hl : v < σ.length
      · rw [List.getElem?_set_self (by rw [wipe_length]; exact hl), if_pos hl]
      · rw [if_neg hl, List.getElem?_eq_none (by rw [List.length_set, wipe_length]; omega)]
    · rw [List.getElem?_set_ne e]
      rcases List.mem_cons.mp h with rfl | h
      · exact absurd rfl e
      · exact wipe_in h
theorem Out2.wiped {vs : List Nat} {σ σ' : L2.St} (a : Out2 vs σ σ') : wipe σ' vs = wipe σ vs := by
  apply List.ext_getElem?
  intro j
  by_cases h : j ∈ vs
  · rw [wipe_in h, wipe_in h, a.len]
  · rw [wipe_out h, wipe_out h, a.same j h]
section
variable {C : Com} {σ : L2.St} {H : Hp} {ι : Sum Nat Nat → Addr} {m : M}
theorem live_wipe {vs : List Nat} {x : Sum Nat Nat} {c : Cell} (h : live (wipeM vs m) x = some c) : live m x = some c ∧ ∀ i, x = .inl i → i ∉ vs := by
  cases x with
  | inr n => exact ⟨h, nofun⟩
  | inl i =>
    unfold live wipeM at h
    dsimp only at h
    split at h
    · rename_i z q
      obtain ⟨h1, h2⟩ := wipeL_some q
      cases h
      exact ⟨live_own h1, fun j e => by cases e; exact h2⟩
    · rename_i z q
      obtain ⟨h1, h2⟩ := wipeL_some q
      cases h
      exact ⟨live_lock h1, fun j e => by cases e; exact h2⟩
    · cases h
theorem Rel.wipe {σ' : L2.St} {vs : List Nat} (r : Rel C ι σ H m) (o : Out2 vs σ σ') : Rel C ι σ' H (wipeM vs m) where
  len := by
    show σ'.length = (wipeL m.σ vs).length
    rw [o.len, wipeL_len]; exact r.len
  slot := fun i a h => by
    obtain ⟨h1, h2⟩ := wipeL_some (show (wipeL m.σ vs)[i]? = some (some (SV.av a)) from h)
    obtain ⟨h0, v, h3, h4⟩ := r.slot i a h1
    exact ⟨h0, v, (o.same i h2).trans h3, h4⟩
  slotO := fun i c h => by
    obtain ⟨h1, h2⟩ := live_wipe h
    exact (o.same i (h2 i rfl)).trans (r.slotO i c h1)
  cell := fun x c h => r.cell x c (live_wipe h).1
  noS := fun x c h => r.noS x c (live_wipe h).1
  inj := fun x y c c' hx hy e => r.inj x y c c' (live_wipe hx).1 (live_wipe hy).1 e
  low := r.low
theorem ExtE.wipe {vs : List Nat} : ExtE m ι H (wipeM vs m) ι H :=
  ⟨⟨.refl, fun b o hb nl => ⟨hb, fun ⟨x, c, hx, e⟩ => nl ⟨x, c, (live_wipe hx).1, e⟩⟩, fun _ _ => rfl, Nat.le_refl _, fun _ h => h, rfl, fun _ _ h => h⟩, fun _ => rfl⟩
end

/-! ### targets -/
structure BdG (C : Com) (N : List Str) (sc : Scope) (k : Nat) (fa : Bool) (X : Cx) : Prop extends Bd C N sc k X where
  nd : N.Nodup
  fn : fa = true → ∀ x, X.fn x = true
theorem BdS.g {C : Com} {N : List Str} {sc : Scope} {k : Nat} {X : Cx} (B : BdS C N sc k X) : BdG C N sc k true X := ⟨B.toBd, B.nd, fun _ => B.fn⟩
def tGt (C : Com) (vs : List Nat) (B : AV → M → Option M) : TG := fun v σ H Q => ∃ ι m a, Rel C ι σ H m ∧ AVR C ι H m.S.length a v ∧ ∃ m', B a m = some m' ∧ ∀ σ', Rel C ι σ' H m' → ExtE m ι H m' ι H → Out2 vs σ σ' → Q σ' H
def tGts (C : Com) (vs : List Nat) (B : List D → M → Option M) : TGs := fun us σ H Q => ∃ ι m ds, Rel C ι σ H m ∧ Dens C H ds us ∧ ∃ m', B ds m = some m' ∧ ∀ σ', Rel C ι σ' H m' → ExtE m ι H m' ι H → Out2 vs σ σ' → Q σ' H
section
variable (C : Com) (N : List Str) (sc : Scope) (k : Nat) (fa : Bool)
structure SG (vs : List Nat) (tg : Expr) (B : AV → M → Option M) : Prop where
  run : ∀ X, BdG C N sc k fa X → PG X tg (tGt C vs B)
structure SGs (vs : List Nat) (es : List Expr) (B : List D → M → Option M) : Prop where
  run : ∀ X, BdG C N sc k fa X → PGs X es (tGts C vs B)
end
def locL (sc : Scope) (x : Str) : Bool := match sc.names.lookup x with
  | some .local => true
  | _ => false
def nameB (i : Nat) : AV → M → Option M := fun a m => match a with
  | .s _ => none
  | a => some (setSl m i (some (.av a)))
def nilB : List D → M → Option M := fun ds m => match ds with
  | [] => some m
  | _ => none
def consB (B : AV → M → Option M) (Bs : List D → M → Option M) : List D → M → Option M := fun ds m => match ds with
  | d :: ds => match B (.t d) m with
    | some m1 => Bs ds m1
    | none => none
  | [] => none
def tupB (n : Nat) (Bs : List D → M → Option M) : AV → M → Option M := fun a m => match a with
  | .t (.tup ds) => match Nat.beq ds.length n with
    | true => Bs ds m
    | false => none
  | _ => none
theorem pg_imp {X : Cx} {e : Expr} {t t' : TG} (h : PG X e t) (i : ∀ v σ H Q, t' v σ H Q → t v σ H Q) : PG X e t' := ⟨fun pins s σ H v u Q I r q => h.run pins s σ H v u Q I r (i v σ H Q q)⟩
theorem pgs_imp {X : Cx} {e : List Expr} {t t' : TGs} (h : PGs X e t) (i : ∀ v σ H Q, t' v σ H Q → t v σ H Q) : PGs X e t' := ⟨fun pins s σ H v u Q I r q => h.run pins s σ H v u Q I r (i v σ H Q q)⟩
section
variable {C : Com} {N : List Str} {sc : Scope} {k : Nat} {fa : Bool} {pos : Pos}
theorem SG.name {i : Nat} {x : Str} (hi : N[i]? = some x) (hx : (locL sc x || (fa && locB sc x)) = true) : SG C N sc k fa [i] (.Name x pos) (nameB i) := by
  refine ⟨fun X B => pg_imp (pg_name (by rw [B.hN]; exact B.nd) (by rw [B.hN]; exact hi) ?_ ?_) fun v σ H Q ⟨ι, m, a, rl, ra, m', eb, q⟩ => ?_⟩
  · rw [B.hsc]
    rcases Bool.or_eq_true_iff.mp hx with h | h
    · unfold locL at h
      split at h
      · exact .inl (by assumption)
      · cases h
    · exact loc_of (Bool.and_eq_true_iff.mp h).2
  · rcases Bool.or_eq_true_iff.mp hx with h | h
    · right
      rw [B.hsc]
      unfold locL at h
      split at h
      · assumption
      · cases h
    · exact .inl (B.fn (Bool.and_eq_true_iff.mp h).1 x)
  · have o : Out2 [i] σ (σ.set i (some v)) := ⟨List.length_set, fun j h => List.getElem?_set_ne fun e => h (by rw [e]; exact List.mem_singleton_self _)⟩
    cases a with
    | s j => cases eb
    | t d => cases eb; exact q _ (rl.setAv rfl ra) ⟨Ext.setAv, fun _ => rfl⟩ o
    | b j => cases eb; exact q _ (rl.setAv rfl ra) ⟨Ext.setAv, fun _ => rfl⟩ o
theorem SGs.nil {vs : List Nat} : SGs C N sc k fa vs [] nilB := by
  refine ⟨fun X B => pgs_imp pgs_nil fun us σ H Q ⟨ι, m, ds, rl, rd, m', eb, q⟩ => ?_⟩
  cases ds with
  | nil => cases eb; exact ⟨rd, q σ rl .refl .refl⟩
  | cons _ _ => cases eb
theorem SGs.cons {vs ws : List Nat} {e : Expr} {es : List Expr} {B : AV → M → Option M} {Bs : List D → M → Option M} (h : SG C N sc k fa vs e B) (hs : SGs C N sc k fa ws es Bs) (ha : ∀ env : Env, (assignEach (e :: es) env).map (·.2) = assign e env :: (assignEach es env).map (·.2)) : SGs C N sc k fa (vs ++ ws) (e :: es) (consB B Bs) := by
  refine ⟨fun X Bd => pgs_imp (pgs_cons (h.run X Bd) (hs.run X Bd) (ha _)) fun us σ H Q ⟨ι, m, ds, rl, rd, m', eb, q⟩ => ?_⟩
  cases ds with
  | nil => cases eb
  | cons d ds =>
    obtain ⟨v, r, rfl, h1, h2⟩ := rd
    unfold consB at eb
    dsimp only at eb
    split at eb
    · rename_i m1 e1
      refine ⟨v, r, rfl, ι, m, .t d, rl, h1, m1, e1, fun σ1 rl1 ex1 o1 => ⟨ι, m1, ds, rl1, h2, m', eb, fun σ2 rl2 ex2 o2 => q σ2 rl2 (ex1.trans ex2) ?_⟩⟩
      exact (o1.more fun j z => List.mem_append_left _ z).trans (o2.more fun j z => List.mem_append_right _ z)
    · cases eb
theorem SG.tup {vs : List Nat} {es : List Expr} {kk n : Nat} {Bs : List D → M → Option M} (h : SGs C N sc k fa vs es Bs) (hn : ∀ env : Env, (assignEach es env).length = n) (hst : ∀ env : Env, (assignEach es env).findIdx? (·.1) = none) : SG C N sc k fa vs (.Tuple es kk pos) (tupB n Bs) := by
  refine ⟨fun X B => pg_imp (pg_tup B.calm (h.run X B) (hn _) (hst _)) fun v σ H Q ⟨ι, m, a, rl, ra, m', eb, q⟩ => ?_⟩
  unfold tupB at eb
  split at eb
  · rename_i ds
    split at eb
    · rename_i en
      obtain ⟨p, vs', rfl, h1, h2⟩ := ra
      exact ⟨p, vs', rfl, SqT.of h1, by rw [h2.length]; exact Nat.eq_of_beq_eq_true en, ι, m, ds, rl, h2, m', eb, q⟩
    · cases eb
  · cases eb
end
/-- an assignment of one value to any target -/
def asgS (B : AV → M → Option M) (F : Ex AV) : Stm := fun m => exS (stE F m) fun a m' => match B a m' with
  | some m'' => .nx m''
  | none => .stuck
section
variable {C : Com} {N : List Str} {sc : Scope} {k : Nat} {pos : Pos}
theorem SS.asg {vs : List Nat} {tg e : Expr} {B : AV → M → Option M} {F : Ex AV} (h : SA C N sc k e F) (hg : SG C N sc k true vs tg B) (hs : ∀ env, swapsWithSole [tg] e pos.line env = pure false) (hw : ∀ env, swappedStores [tg] e env = pure none) (h1 : ∀ env, (assignEach [tg] env).map (·.2) = [assign tg env]) :
    SS C N sc k (.Assign [tg] e pos) (asgS B F) := by
  refine ⟨fun X W Bd tk => ps_imp (ps_asg (h.st.run X W Bd.toBd tk) (hg.run X Bd.g) (hs _) (hw _) (h1 _)) fun D σ H ⟨ι, m, r, q⟩ => ⟨ι, m, r, ?_⟩⟩
  refine OkS.ex q fun a m1 ι1 H1 v eq ex r1 ra q1 => ?_
  cases eb : B a m1 with
  | none =>
    have q1' : OkS C W D σ H1 ι1 m1 (match B a m1 with
      | some m'' => .nx m''
      | none => .stuck) := q1
    rw [eb] at q1'; exact q1'.elim
  | some m2 =>
    have q1' : OkS C W D σ H1 ι1 m1 (match B a m1 with
      | some m'' => .nx m''
      | none => .stuck) := q1
    rw [eb] at q1'
    exact ⟨ι1, m1, a, r1, ra, m2, eb, fun σ' rl' ex' o' => q1' ι1 H1 σ' ex'.toExt rl'⟩
end

/-! ### what is walked -/
structure ItD (C : Com) (J : It) (H1 : Hp) (ds : List D) : Prop where
  go : ∀ H i, Mono H1 H → i < ds.length → J.go i H
  yld : ∀ H i x H' d, Mono H1 H → ds[i]? = some d → J.yld i H x H' → Den C H' d x ∧ (H' = H ∨ ∃ T o, H T = none ∧ H' = upd H T o)
  stop : ∀ H, Mono H1 H → J.stop ds.length H
def tI (C : Com) (W : WX) (F : Ex (List D)) : TI := fun σ H R => ∃ ι m, Rel C ι σ H m ∧ OkO C W (fun _ H' _ ds J => ItD C J H' ds) σ H ι m R (F m)
structure SI (C : Com) (N : List Str) (sc : Scope) (k : Nat) (tg e : Expr) (F : Ex (List D)) : Prop where
  run : ∀ X W, Bd C N sc k X → Takes X W → PI X tg e (tI C W F)
theorem pi_imp {X : Cx} {tg e : Expr} {t t' : TI} (h : PI X tg e t) (i : ∀ σ H R, t' σ H R → t σ H R) : PI X tg e t' := ⟨fun pins s σ H R I q => h.run pins s σ H R I (i σ H R q)⟩
def iAny (K : PySem.W.Frag) (tl : TE) : TI := fun σ H R => tl σ H fun x H1 => (∃ a, x = .ref a ∧ (((∃ xs, SqL K H1 a xs) ∧ R (Itl K a) H1) ∨ ((∃ xs, SqT K H1 a xs) ∧ R (Itt K a) H1))) ∨ ∃ y, x = .str y ∧ R (Its y) H1
theorem pi_any {X : Cx} {tg l : Expr} {tl : TE} (hl : PE X l tl) : PI X tg l (iAny X.K tl) := by
  refine ⟨fun pins s σ H R I h => thn (hl.run pins s σ H _ I h) fun v s1 ⟨x, H1, I1, r1, q1⟩ => ?_⟩
  have fp : ∀ b ∈ [s1.heap.objs.size], FpOk X pins H1 b := fun b hb => by
    cases List.mem_singleton.mp hb
    exact I1.fpOk (Nat.le_refl _) (I1.hok.fresh (Nat.le_refl _))
  have up : ∀ o : Obj, Inv X pins σ H1 { s1 with heap := s1.heap.push o, toks := s1.toks } := fun o => I1.kept fun b u e => Heap.get?_push_of_some _ e
  rcases q1 with ⟨a, ex, ⟨⟨xs, hq⟩, q⟩ | ⟨⟨xs, hq⟩, q⟩⟩ | ⟨y, ex, q⟩
  · subst ex
    cases (show v = Value.ref a from r1)
    obtain ⟨its, _, p, _⟩ := I1.list hq
    exact wpAny_pyIter_list p.isList ⟨_, _, _, _, H1, rfl, up _, turn_list a _, ⟨_, Heap.get?_push_size _ rfl, rfl, rfl⟩, fp, q⟩
  · subst ex
    cases (show v = Value.ref a from r1)
    obtain ⟨its, _, p, _⟩ := I1.tuple hq
    exact wpAny_pyIter_tuple (show s1.heap.IsTuple a its.toArray from p) ⟨_, _, _, _, H1, rfl, up _, turn_tuple a _, ⟨_, Heap.get?_push_size _ rfl, rfl, rfl⟩, fp, q⟩
  · subst ex
    obtain ⟨t, rfl⟩ := r1
    cases ha : y.cps.all (· < 128) with
    | false => exact wpAny_pyIter_wide ha ⟨_, _, _, _, H1, rfl, up _, turn_str _ y t "str_iterator" (.inr rfl), ⟨_, Heap.get?_push_size _ rfl, rfl, rfl⟩, fp, q⟩
    | true => exact wpAny_pyIter_ascii ha ⟨_, _, _, _, H1, rfl, up _, turn_str _ y t "str_ascii_iterator" (.inl rfl), ⟨_, Heap.get?_push_size _ rfl, rfl, rfl⟩, fp, q⟩
/-- the items of a tree -/
def itemsD : D → Option (List D)
  | .tup xs => some xs
  | .lst xs => some xs
  | .str x => some (x.map fun c => .str [c])
  | _ => none
def itE (F : Ex AV) : Ex (List D) := fun m => (stE F m).bind fun a m' => match a with
  | .t d => match itemsD d with
    | some ds => .ok ds m'
    | none => .stuck
  | _ => .stuck
section
variable {C : Com} {N : List Str} {sc : Scope} {k : Nat} {tg e : Expr} {pos p : Pos}
theorem itd_lst {K : PySem.W.Frag} {H1 : Hp} {a : Addr} {o : Obj} {vs : List V} {ds : List D} (h : H1 a = some (.frz o (.lst vs))) (hd : Dens C H1 ds vs) : ItD C (Itl K a) H1 ds where
  go := fun H i mo hi => by
    obtain ⟨v, h1, _⟩ := (Dens.mono mo _ _ hd).get (List.getElem?_eq_getElem hi)
    exact ⟨vs, v, .inl (.inr ⟨o, mo.frz _ _ _ h⟩), h1⟩
  yld := fun H i x H' d mo hi hy => by
    obtain ⟨rfl, hy⟩ := hy
    obtain ⟨v, h1, h2⟩ := (Dens.mono mo _ _ hd).get hi
    have := hy vs (.inl (.inr ⟨o, mo.frz _ _ _ h⟩))
    rw [h1] at this
    cases this
    exact ⟨h2, .inl rfl⟩
  stop := fun H mo => ⟨vs, .inl (.inr ⟨o, mo.frz _ _ _ h⟩), by rw [hd.length]; exact Nat.le_refl _⟩
theorem itd_tup {K : PySem.W.Frag} {H1 : Hp} {a : Addr} {vs : List V} {ds : List D} (h : H1 a = some (.tup vs)) (hd : Dens C H1 ds vs) : ItD C (Itt K a) H1 ds where
  go := fun H i mo hi => by
    obtain ⟨v, h1, _⟩ := (Dens.mono mo _ _ hd).get (List.getElem?_eq_getElem hi)
    exact ⟨vs, v, SqT.of (mo.tup _ _ h), h1⟩
  yld := fun H i x H' d mo hi hy => by
    obtain ⟨rfl, hy⟩ := hy
    obtain ⟨v, h1, h2⟩ := (Dens.mono mo _ _ hd).get hi
    have := hy vs (SqT.of (mo.tup _ _ h))
    rw [h1] at this
    cases this
    exact ⟨h2, .inl rfl⟩
  stop := fun H mo => ⟨vs, SqT.of (mo.tup _ _ h), by rw [hd.length]; exact Nat.le_refl _⟩
theorem itd_str {H1 : Hp} {x : List Nat} : ItD C (Its (mkS x)) H1 (x.map fun c => .str [c]) where
  go := fun H i mo hi => by
    show i < x.toArray.size
    simpa using hi
  yld := fun H i v H' d mo hi hy => by
    obtain ⟨rfl, c, hc, rfl⟩ := hy
    have hc' : x[i]? = some c := by simpa [mkS] using hc
    rw [List.getElem?_map, hc'] at hi
    cases hi
    exact ⟨rfl, .inl rfl⟩
  stop := fun H mo => by
    show x.toArray.size ≤ _
    simp
theorem SI.any {F : Ex AV} (h : SA C N sc k e F) : SI C N sc k tg e (itE F) := by
  refine ⟨fun X W B tk => pi_imp (pi_any (h.st.run X W B tk)) fun σ H R ⟨ι, m, rl, q⟩ => ⟨ι, m, rl, ?_⟩⟩
  refine OkO.bind q fun a m1 ι1 H1 v eq ex r1 ra q1 => ?_
  cases a with
  | b n => exact q1.elim
  | s i => exact q1.elim
  | t d =>
    cases d with
    | tup xs =>
      obtain ⟨a, vs, rfl, h1, h2⟩ := ra
      exact .inl ⟨a, rfl, .inr ⟨⟨vs, SqT.of h1⟩, q1 ι1 H1 _ .refl r1 (itd_tup h1 h2)⟩⟩
    | lst xs =>
      obtain ⟨a, o, vs, rfl, h1, h2⟩ := ra
      exact .inl ⟨a, rfl, .inl ⟨⟨vs, .inl (.inr ⟨o, h1⟩)⟩, q1 ι1 H1 _ .refl r1 (itd_lst h1 h2)⟩⟩
    | str x => exact .inr ⟨mkS x, ra, q1 ι1 H1 _ .refl r1 itd_str⟩
    | _ => exact q1.elim
/-- range(n), range(a, b) -/
def upTo (lo : Int) (n : Nat) : List D := (List.range n).map fun i => .int (lo + (i : Nat))
def okI (i : Int) : Bool := decide (-(2 ^ 62) ≤ i) && decide (i < 2 ^ 62)
def rng1 (Fs : Ex (List AV)) : Ex (List D) := fun m => (Fs m).bind fun as m' => match as with
  | [.t (.int j)] => match okI j with
    | true => .ok (upTo 0 j.toNat) m'
    | false => .stuck
  | _ => .stuck
def rng2 (Fs : Ex (List AV)) : Ex (List D) := fun m => (Fs m).bind fun as m' => match as with
  | [.t (.int i), .t (.int j)] => match okI i && okI j with
    | true => .ok (upTo i (j - i).toNat) m'
    | false => .stuck
  | _ => .stuck
theorem itd_rng {H1 : Hp} {lo : Int} {n : Nat} : ItD C (Itr lo n) H1 (upTo lo n) where
  go := fun H i mo hi => by simpa [upTo, Itr] using hi
  yld := fun H i v H' d mo hi hy => by
    obtain ⟨rfl, rfl⟩ := hy
    unfold upTo at hi
    rw [List.getElem?_map] at hi
    obtain ⟨j, hj, rfl⟩ := Option.map_eq_some_iff.mp hi
    have : i = j := by
      obtain ⟨h1, h2⟩ := List.getElem?_eq_some_iff.mp hj
      simpa using h2
    subst this
    exact ⟨rfl, .inl rfl⟩
  stop := fun H mo => by simp [upTo, Itr]
theorem okI_ok {i : Int} (h : okI i = true) : -(2 ^ 62) ≤ i ∧ i < 2 ^ 62 := by
  unfold okI at h
  simpa [Bool.and_eq_true] using h
theorem SI.range1 {a : Expr} {Fs : Ex (List AV)} (hg : glB sc "range" = true) (hm : C.mg "range" = none) (ha : SAs C N sc k [a] Fs) (hs : ∀ env : Env, starEach [a] env = [(false, eval a env)]) : SI C N sc k tg (.Call (.Name "range" p) [a] [] pos) (rng1 Fs) := by
  refine ⟨fun X W B tk => ?_⟩
  have eC := B.com
  subst eC
  refine pi_imp (pi_range1 (gl_of B hg) hm (ha.run X W B tk) (hs _)) fun σ H R ⟨ι, m, rl, q⟩ => ⟨ι, m, rl, ?_⟩
  refine OkO.bind q fun as m1 ι1 H1 vs eq ex r1 ra q1 => ?_
  split at q1
  · obtain ⟨v, rfl, hv⟩ := avrs1 ra
    cases (show v = .int _ from hv)
    split at q1
    · rename_i hj
      obtain ⟨h1, h2⟩ := okI_ok hj
      exact ⟨_, rfl, h1, h2, q1 ι1 H1 _ .refl r1 itd_rng⟩
    · exact q1.elim
  · exact q1.elim
theorem SI.range2 {a b : Expr} {Fs : Ex (List AV)} (hg : glB sc "range" = true) (hm : C.mg "range" = none) (ha : SAs C N sc k [a, b] Fs) (hs : ∀ env : Env, starEach [a, b] env = [(false, eval a env), (false, eval b env)]) (hs2 : ∀ env : Env, starEach [b] env = [(false, eval b env)]) :
    SI C N sc k tg (.Call (.Name "range" p) [a, b] [] pos) (rng2 Fs) := by
  refine ⟨fun X W B tk => ?_⟩
  have eC := B.com
  subst eC
  refine pi_imp (pi_range2 (gl_of B hg) hm (ha.run X W B tk) (hs _) (hs2 _)) fun σ H R ⟨ι, m, rl, q⟩ => ⟨ι, m, rl, ?_⟩
  refine OkO.bind q fun as m1 ι1 H1 vs eq ex r1 ra q1 => ?_
  split at q1
  · obtain ⟨v, w, rfl, hv, hw⟩ := avrs2 ra
    cases (show v = .int _ from hv)
    cases (show w = .int _ from hw)
    split at q1
    · rename_i hj
      obtain ⟨h1, h2⟩ := okI_ok (Bool.and_eq_true_iff.mp hj).1
      obtain ⟨h3, h4⟩ := okI_ok (Bool.and_eq_true_iff.mp hj).2
      exact ⟨_, _, rfl, ⟨h1, h2, h3, h4⟩, q1 ι1 H1 _ .refl r1 itd_rng⟩
    · exact q1.elim
  · exact q1.elim
end

/-! ### for -/
def forGo (B : AV → M → Option M) (G : Stm) : List D → Stm
  | [], m => .nx m
  | d :: ds, m => match B (.t d) m with
    | none => .stuck
    | some m1 => match G m1 with
      | .nx m2 => forGo B G ds m2
      | .ct m2 => forGo B G ds m2
      | .brk m2 => .nx m2
      | .ret v m2 => .ret v m2
      | .exc x m2 => .exc x m2
      | .stuck => .stuck
def forS (I : Ex (List D)) (B : AV → M → Option M) (G : Stm) : Stm := fun m => exS (I m) fun ds m1 => forGo B G ds m1
section
variable {C : Com} {N : List Str} {sc : Scope} {k : Nat} {pos : Pos}
theorem yld_rel {σ : L2.St} {H H' : Hp} {ι : Sum Nat Nat → Addr} {m : M} (rl : Rel C ι σ H m) (h : H' = H ∨ ∃ T o, H T = none ∧ H' = upd H T o) : Rel C ι σ H' m ∧ ExtE m ι H m ι H' := by
  rcases h with rfl | ⟨T, o, hT, rfl⟩
  · exact ⟨rl, .refl⟩
  · exact ⟨rl.new hT, ExtE.new hT⟩
theorem SS.for {vs : List Nat} {tg it : Expr} {body : List Stmt} {I : Ex (List D)} {B : AV → M → Option M} {G : Stm} (hi : SI C N sc k tg it I) (hg : SG C N sc k true vs tg B) (hb : SSs C N sc k body G) (hs : ∀ env x, foldedSetIterable it env x = pure x) : SS C N sc k (.For tg it body [] pos) (forS I B G) := by
  refine ⟨fun X W Bd tk => ps_imp (ps_for Bd.own Bd.calm (hi.run X W Bd.toBd tk) (hg.run X Bd.g) (hb.run X W Bd tk) (hs _)) fun D σ H ⟨ι, m, r, q⟩ => ⟨ι, m, r, ?_⟩⟩
  refine OkS.ex q fun ds m1 ι1 H1 J eq ex r1 rJ q1 => ?_
  refine ⟨fun i n σ' H' => n = ds.length - i ∧ i ≤ ds.length ∧ ∃ ι2 m2, Mono H1 H' ∧ Rel C ι2 σ' H' m2 ∧ OkS C W D σ' H' ι2 m2 (forGo B G (ds.drop i) m2), ⟨_, rfl, Nat.zero_le _, ι1, m1, .refl, r1, q1⟩, fun i n σ' H' ⟨hn, hle, ι2, m2, mo, r2, q2⟩ => ?_⟩
  by_cases hi : i = ds.length
  · subst hi
    rw [List.drop_length] at q2
    exact .inl ⟨rJ.stop H' mo, q2 ι2 H' σ' .refl r2⟩
  · have hlt : i < ds.length := by omega
    have ed : ds[i]? = some ds[i] := List.getElem?_eq_getElem hlt
    rw [List.drop_eq_getElem_cons hlt] at q2
    refine .inr ⟨rJ.go H' i mo hlt, fun σ3 H3 => ∃ ι4 m4, Mono H1 H3 ∧ Rel C ι4 σ3 H3 m4 ∧ OkS C W D σ3 H3 ι4 m4 (forGo B G (ds.drop (i + 1)) m4), fun σ3 H3 ⟨ι4, m4, mo4, r4, q4⟩ => ⟨ds.length - (i + 1), by omega, rfl, by omega, ι4, m4, mo4, r4, q4⟩, fun x H3 hy => ?_⟩
    obtain ⟨hd, hH⟩ := rJ.yld H' i x H3 _ mo ed hy
    obtain ⟨r3, ex3⟩ := yld_rel r2 hH
    have q3 := OkS.from q2 ex3.toExt r3
    unfold forGo at q3
    cases eb : B (.t ds[i]) m2 with
    | none => rw [eb] at q3; exact q3.elim
    | some m3 =>
      rw [eb] at q3
      refine ⟨ι2, m2, .t ds[i], r3, hd, m3, eb, fun σ4 r4 ex4 _ => ⟨ι2, m3, r4, ?_⟩⟩
      have q4 := OkS.from q3 ex4.toExt r4
      have mo3 : Mono H1 H3 := mo.trans ex3.mono
      dsimp only at q4
      cases eg : G m3 with
      | nx m5 =>
        rw [eg] at q4
        exact fun ι5 H5 σ5 ex5 r5 => ⟨ι5, m5, mo3.trans ex5.mono, r5, OkS.from q4 ex5 r5⟩
      | ct m5 =>
        rw [eg] at q4
        exact fun ι5 H5 σ5 ex5 r5 => ⟨ι5, m5, mo3.trans ex5.mono, r5, OkS.from q4 ex5 r5⟩
      | brk m5 => rw [eg] at q4; exact q4
      | ret v m5 => rw [eg] at q4; exact q4
      | exc x m5 => rw [eg] at q4; exact q4
      | stuck => rw [eg] at q4; exact q4
end

/-! ### comprehensions -/
def lcGo (B : AV → M → Option M) (vs : List Nat) (T : Ex Bool) (F : Ex AV) : List D → List D → Ex (List D)
  | [], acc, m => .ok acc m
  | d :: ds, acc, m => match B (.t d) m with
    | none => .stuck
    | some m1 => match T m1 with
      | .ok false m2 => lcGo B vs T F ds acc (wipeM vs m2)
      | .ok true m2 => match F m2 with
        | .ok (.t e) m3 => lcGo B vs T F ds (acc ++ [e]) (wipeM vs m3)
        | _ => .stuck
      | _ => .stuck
def lcE (I : Ex (List D)) (B : AV → M → Option M) (vs : List Nat) (T : Ex Bool) (F : Ex AV) : Ex RV := fun m => (I m).bind fun ds m1 => match Nat.blt ds.length lim with
  | true => (lcGo B vs T F ds [] (wipeM vs m1)).bind fun acc m2 => .ok (.own (.lst acc)) m2
  | false => .stuck
def yesT : Ex Bool := fun m => .ok true m
structure SF (C : Com) (N : List Str) (sc : Scope) (k : Nat) (ifs : List Expr) (T : Ex Bool) : Prop where
  run : ∀ X W, Bd C N sc k X → Takes X W → PTs X ifs (tB C W T)
theorem pts_imp {X : Cx} {e : List Expr} {t t' : TT} (h : PTs X e t) (i : ∀ σ H Q, t' σ H Q → t σ H Q) : PTs X e t' := ⟨fun pins s σ H Q I q => h.run pins s σ H Q I (i σ H Q q)⟩
def relS (sc scope : Scope) : Scope := { scope with names := scope.names.map fun (n, k) => if (k == .free && sc.kind == .function && sc.names.lookup n == some .cell) then (n, .cell) else (n, k) }
section
variable {C : Com} {N : List Str} {sc : Scope} {k : Nat} {pos : Pos}
theorem SF.nil : SF C N sc k [] yesT := ⟨fun X W B tk => pts_imp pts_nil fun σ H Q ⟨ι, m, rl, q⟩ => q ι H true .refl rl rfl⟩
theorem SF.one {c : Expr} {T : Ex Bool} (h : SB C N sc k c T) : SF C N sc k [c] T := ⟨fun X W B tk => pts_one (h.run X W B tk)⟩
theorem bd_blk {X : Cx} (B : Bd C N sc k X) {s : Shared} {H : Hp} {scope : Scope} {Ca : Addr} {cl : List (Str × Addr)} {fp : List Addr} : Bd C N (relS sc scope) k (X.blk s H scope (compEnvC scope cl Ca X.env) fp) := by
  refine ⟨B.com, B.hN, ?_, B.calm, B.room⟩
  have e := B.hsc
  subst e
  rfl
theorem ExtE.mid {m m' : M} {ι ι' : Sum Nat Nat → Addr} {H H' : Hp} {p : Addr} {o w : HO} (ex : ExtE m ι H m' ι' H') (h0 : H p = none) (h : H' p = some o) (c : Chg o) : ExtE m ι H m' ι' (upd H' p w) := by
  refine ⟨⟨ex.mono.trans (Mono.put h c), fun b ob hb nl => ?_, ex.b, ex.len, fun b hb => ?_, ex.base, ex.box⟩, ex.s⟩
  · obtain ⟨h1, h2⟩ := ex.keep b ob hb nl
    exact ⟨by rw [upd_ne (ne_of_none hb h0)]; exact h1, h2⟩
  · by_cases e : b = p
    · rw [e]; exact h0
    · rw [upd_ne e] at hb
      exact ex.there b hb
theorem SE.lc {vs : List Nat} {own : List (Str × Nat)} {elt tg it : Expr} {ifs : List Expr} {scope : Scope} {I : Ex (List D)} {B : AV → M → Option M} {T : Ex Bool} {F : Ex AV} (nd : N.Nodup) (hi : SI C N sc k tg it I) (hb : blkC N sc scope own = true) (hv : ∀ j ∈ vs, j ∈ own.map (·.2))
    (hg : SG C N (relS sc scope) k false vs tg B) (ht : SF C N (relS sc scope) k ifs T) (hf : SA C N (relS sc scope) k elt F) (hs : ∀ env x, foldedSetIterable it env x = pure x) : SE C N sc k (.ListComp elt [⟨tg, it, ifs, 0⟩] scope pos) (lcE I B (own.map (·.2)) T (stE F)) := by
  refine ⟨fun X W Bd tk => ?_⟩
  have hN := Bd.hN
  have hsc := Bd.hsc
  refine pe_imp (pe_lc (own := own) Bd.calm (by rw [hN]; exact nd) (hi.run X W Bd tk) (by rw [hN, hsc]; exact blkOk_by hb) (fun s H Ca cl fp => hg.run _ ⟨bd_blk Bd, nd, nofun⟩) (fun s H Ca cl fp => ht.run _ _ (bd_blk Bd) takes_no) (fun s H Ca cl fp => hf.st.run _ _ (bd_blk Bd) takes_no) (hs _)) fun σ H Q ⟨ι, m, rl, q⟩ => ⟨ι, m, rl, ?_⟩
  generalize own.map (·.2) = ws at hv q
  generalize stE F = F' at q
  refine OkO.bind q fun ds m1 ι1 H1 J eq ex r1 rJ q1 => ?_
  have q2 : OkR C W σ H1 ι1 m1 m ι H Q (match Nat.blt ds.length lim with
    | true => (lcGo B ws T F' ds [] (wipeM ws m1)).bind fun acc m2 => .ok (.own (.lst acc)) m2
    | false => .stuck) := q1
  cases hl : Nat.blt ds.length lim with
  | false => rw [hl] at q2; exact q2.elim
  | true =>
    rw [hl] at q2
    intro A hA
    have r0 := r1.new (o := .lst []) hA
    have n0 : ¬ Lv (wipeM ws m1) ι1 A := fun ⟨x, c, hx, e⟩ => r1.notLv hA ⟨x, c, (live_wipe hx).1, e⟩
    let P : Nat → Hp → Prop := fun i H' => i ≤ ds.length ∧ ∃ ι2 m2 acc zs, ExtE m1 ι1 H1 m2 ι2 H' ∧ Rel C ι2 σ H' m2 ∧ Rel C ι2 (wipe σ ws) H' m2 ∧ H' A = some (.lst zs) ∧ Dens C H' acc zs ∧ ¬ Lv m2 ι2 A ∧ acc.length ≤ i ∧
      OkR C W σ H1 ι1 m1 m ι H Q ((lcGo B ws T F' (ds.drop i) acc m2).bind fun acc m2 => .ok (.own (.lst acc)) m2)
    refine ⟨fun i n H' => n = ds.length - i ∧ P i H', ⟨_, rfl, Nat.zero_le _, ι1, wipeM ws m1, [], [], (ExtE.new hA).trans .wipe, r0.wipe .refl, r0.wipe (.ofWipe ws σ), upd_same, rfl, n0, Nat.le_refl _, q2⟩, ?_⟩
    rintro i n H2 ⟨hn, hle, ι2, m2, acc, zs, ex2, r2, r2w, hz, hd, nl, hlen, q3⟩
    by_cases hi : i = ds.length
    · subst hi
      rw [List.drop_length] at q3
      exact .inl ⟨rJ.stop H2 ex2.mono, q3 ι2 H2 _ ex2 r2 ⟨A, rfl, ⟨zs, hz, hd⟩, rfl, nl, .inl (ex.there A hA)⟩⟩
    · have hlt : i < ds.length := by omega
      have ed : ds[i]? = some ds[i] := List.getElem?_eq_getElem hlt
      rw [List.drop_eq_getElem_cons hlt] at q3
      refine .inr ⟨rJ.go H2 i ex2.mono hlt, P (i + 1), fun H' hP => ⟨ds.length - (i + 1), by omega, rfl, hP⟩, fun x H3 hy => ?_⟩
      obtain ⟨hx, hH⟩ := rJ.yld H2 i x H3 _ ex2.mono ed hy
      obtain ⟨r3, ex3⟩ := yld_rel r2w hH
      unfold lcGo at q3
      cases eb : B (.t ds[i]) m2 with
      | none => rw [eb] at q3; exact q3.elim
      | some m3 =>
        rw [eb] at q3
        dsimp only at q3
        refine ⟨ι2, m2, .t ds[i], r3, hx, m3, eb, fun σ4 r4 ex4 o4 => ?_⟩
        have o5 : Out2 ws σ σ4 := (Out2.ofWipe ws σ).trans (o4.more hv)
        have exA := ex3.trans ex4
        refine ⟨o5.wiped, ι2, m3, r4, ?_⟩
        cases et : T m3 with
        | stuck => rw [et] at q3; exact q3.elim
        | exc x m4 => rw [et] at q3; exact q3.elim
        | ok b m4 =>
          intro ι4 H4 v ex5 r5 ev
          subst ev
          have exB := exA.trans ex5
          rw [et] at q3
          cases b with
          | false =>
            obtain ⟨k1, k2⟩ := exB.keep A _ hz nl
            exact ⟨by omega, ι4, wipeM ws m4, acc, zs, (ex2.trans exB).trans .wipe, r5.wipe o5.symm, r5.wipe (o5.symm.trans (.ofWipe ws σ)), k1, Dens.mono exB.mono _ _ hd, fun ⟨x, c, hx, e⟩ => k2 ⟨x, c, (live_wipe hx).1, e⟩, by omega, q3⟩
          | true =>
            refine ⟨ι4, m4, r5, ?_⟩
            dsimp only at q3
            cases ef : F' m4 with
            | stuck => rw [ef] at q3; exact q3.elim
            | exc x m5 => rw [ef] at q3; exact q3.elim
            | ok a m5 =>
              rw [ef] at q3
              cases a with
              | b n => exact q3.elim
              | s n => exact q3.elim
              | t e =>
                intro ι5 H5 y ex6 r6 hy5
                have exC := exB.trans ex6
                obtain ⟨k1, k2⟩ := exC.keep A _ hz nl
                have exD := (ex2.trans exC).mid (w := .lst (zs ++ [y])) hA k1 trivial
                have r7 := r6.frz (w := .lst (zs ++ [y])) k1 trivial k2
                have mo : Mono H5 (upd H5 A (.lst (zs ++ [y]))) := Mono.put k1 trivial
                refine ⟨zs, k1, ?_, by omega, ι5, wipeM ws m5, acc ++ [e], zs ++ [y], exD.trans .wipe, r7.wipe o5.symm, r7.wipe (o5.symm.trans (.ofWipe ws σ)), upd_same, ?_, fun ⟨x, c, hx, e⟩ => k2 ⟨x, c, (live_wipe hx).1, e⟩, by simp; omega, q3⟩
                · rw [hd.length]
                  have := lim_line hl
                  omega
                · exact (Dens.mono (exC.mono.trans mo) _ _ hd).append (Dens.one (Den.mono mo _ _ hy5))
end
end BL
end part_BLq

section part_BLr
set_option Elab.async false
set_option linter.all false
set_option maxRecDepth 100000
set_option maxHeartbeats 4000000
set_option autoImplicit false
/-! BLr: calls of methods of built-in kinds; o[i] = v; a, b = x, y; x += n; a thing put into the store; chained comparisons; tables of the module. -/
namespace BL
open PySem PySem.Spec PyProof.Rows L2

/-! ### methods of built-in kinds -/
structure Rcv (C : Com) (T : String) (p : AV → M → Bool) : Prop where
  ok : ∀ {σ : L2.St} {H : Hp} {ι : Sum Nat Nat → Addr} {m : M} {a : AV} {v : V}, Rel C ι σ H m → AVR C ι H m.S.length a v → p a m = true → tyV C.K T v H
def isLstA (a : AV) (m : M) : Bool := match a with
  | .t (.lst _) => true
  | .t _ => false
  | a => match cellAt m a with
    | some (.lst _) => true
    | some (.lsa _) => true
    | _ => false
def isStrA (a : AV) (_ : M) : Bool := match a with
  | .t (.str _) => true
  | _ => false
theorem rcv_lst {C : Com} : Rcv C "list" isLstA := by
  constructor
  intro σ H ι m a v rl ra h
  have go : ∀ a : AV, AVR C ι H m.S.length a v → (match cellAt m a with
      | some (.lst _) => true
      | some (.lsa _) => true
      | _ => false) = true → tyV C.K "list" v H := fun a ra h => by
    split at h
    · rename_i hc
      obtain ⟨x, hl, rfl⟩ := cell_at rl ra hc
      obtain ⟨vs, h1, _⟩ := rl.cell x _ hl
      exact .inl ⟨rfl, vs, .inl (.inl h1)⟩
    · rename_i hc
      obtain ⟨x, hl, rfl⟩ := cell_at rl ra hc
      obtain ⟨vs, h1, _⟩ := rl.cell x _ hl
      exact .inl ⟨rfl, vs, .inl (.inl h1)⟩
    · cases h
  cases a with
  | t d =>
    cases d with
    | lst xs =>
      obtain ⟨p, o, vs, rfl, h1, _⟩ := ra
      exact .inl ⟨rfl, vs, .inl (.inr ⟨o, h1⟩)⟩
    | _ => cases h
  | b n => exact go _ ra h
  | s i => exact go _ ra h
theorem rcv_str {C : Com} : Rcv C "str" isStrA := by
  constructor
  intro σ H ι m a v rl ra h
  unfold isStrA at h
  split at h
  · cases (show v = .str _ from ra); rfl
  · cases h
def eMt (p : AV → M → Bool) (f : AV → List AV → M → Out RV) (F : Ex AV) (Fs : Ex (List AV)) : Ex RV := fun m => (F m).bind fun a m1 => match p a m1 with
  | true => (Fs m1).bind fun as m2 => f a as m2
  | false => .stuck
def eMt0 (p : AV → M → Bool) (f : AV → List AV → M → Out RV) (F : Ex AV) : Ex RV := fun m => (F m).bind fun a m1 => match p a m1 with
  | true => f a [] m1
  | false => .stuck
section
variable {C : Com} {N : List Str} {sc : Scope} {k : Nat} {pos apos cpos : Pos}
theorem SE.meth {o e : Expr} {es : List Expr} {F : Ex AV} {Fs : Ex (List AV)} {T id : String} {name : Str} {p : AV → M → Bool} {f : AV → List AV → M → Out RV} {r : V → List V → Hp → VK → Prop} (pa : PlainAttrs T) (slot : Slot T name id) (hty : typeOf (.builtin id) = pure (.type "method_descriptor")) (hm : ∀ X, Bd C N sc k X → MtR X id r) (hp : Rcv C T p) (hf : ImpM C f r) (ho : SA C N sc k o F) (ha : SAs C N sc k (e :: es) Fs)
    (hbase : ∀ env : Env, attributeBase o name env (eval o env) = eval o env)
    (hfew : ∀ env : Env, ((backTo cpos (starEach (e :: es) env)).all (fun x => !x.1) && (backToKw cpos (keywordEach [] env)).all (fun x => x.1.isSome) && decide ((e :: es).length + ([] : List Keyword).length + (if ([] : List Keyword).isEmpty then 0 else 1) < 30)) = true)
    (hline : (apos.endLine == cpos.line) = true) (hs : ∀ env : Env, starEach (e :: es) env = (false, eval e env) :: starEach es env) (hpl : ∀ env : Env, (backTo cpos (starEach es env)).any (·.1) = false) :
    SE C N sc k (.Call (.Attribute o name apos) (e :: es) [] cpos) (eMt p f F Fs) := by
  refine ⟨fun X W B tk => pe_imp (pe_bm pa slot hty (hm X B) (ho.run X W B tk) (ha.run X W B tk) (hbase _) (hfew _) hline (hs _) (hpl _)) fun σ H Q ⟨ι, m, rl, q⟩ => ⟨ι, m, rl, ?_⟩⟩
  have eC := B.com
  subst eC
  refine OkO.bind q fun a m1 ι1 H1 v eq ex r1 ra q1 => ?_
  cases ep : p a m1 with
  | false => rw [ep] at q1; exact q1.elim
  | true =>
    rw [ep] at q1
    refine ⟨hp.ok r1 ra ep, ι1, m1, r1, ?_⟩
    refine OkO.bind q1 fun as m2 ι2 H2 vs eq2 ex2 r2 rs q2 => ?_
    exact hf.ok r2 (ra.ext ex2) rs (ex.trans ex2) q2
theorem SE.meth0 {o : Expr} {F : Ex AV} {T id : String} {name : Str} {p : AV → M → Bool} {f : AV → List AV → M → Out RV} {r : V → List V → Hp → VK → Prop} (pa : PlainAttrs T) (slot : Slot T name id) (hty : typeOf (.builtin id) = pure (.type "method_descriptor")) (hm : ∀ X, Bd C N sc k X → MtR X id r) (hp : Rcv C T p) (hf : ImpM C f r) (ho : SA C N sc k o F)
    (hbase : ∀ env : Env, attributeBase o name env (eval o env) = eval o env) (hline : (apos.endLine == cpos.line) = true) : SE C N sc k (.Call (.Attribute o name apos) [] [] cpos) (eMt0 p f F) := by
  refine ⟨fun X W B tk => pe_imp (pe_bm0 pa slot hty (hm X B) (ho.run X W B tk) (hbase _) hline) fun σ H Q ⟨ι, m, rl, q⟩ => ⟨ι, m, rl, ?_⟩⟩
  have eC := B.com
  subst eC
  refine OkO.bind q fun a m1 ι1 H1 v eq ex r1 ra q1 => ?_
  cases ep : p a m1 with
  | false => rw [ep] at q1; exact q1.elim
  | true =>
    rw [ep] at q1
    exact ⟨hp.ok r1 ra ep, hf.ok (as := []) (vs := []) r1 ra rfl ex q1⟩
end

/-! ### o[i] = v -/
def setIxS (f : AV → AV → AV → M → Out Unit) (F O I : Ex AV) : Stm := fun m => exS (stE F m) fun a m1 => exS (O m1) fun o m2 => exS (I m2) fun i m3 => exS (f o i a m3) fun _ m4 => .nx m4
section
variable {C : Com} {N : List Str} {sc : Scope} {k : Nat} {pos p2 : Pos}
theorem SS.setIx {o i e : Expr} {F O I : Ex AV} {f : AV → AV → AV → M → Out Unit} {t : V → V → V → Hp → (Hp → Prop) → Prop} (hs : ∀ X : Cx, Bd C N sc k X → PSet X t) (hf : ImpSet C f t) (h : SA C N sc k e F) (ho : SA C N sc k o O) (hi : SA C N sc k i I)
    (ha : ∀ env v, assign (.Subscript o i p2) env v = (do
      let ov ← holding [v] (eval o env)
      let iv ← holding [v, ov] (eval i env)
      standAt p2
      holding [v, ov, iv] (setItem ov iv v)
      release [v, ov, iv] []))
    (hsw : ∀ env, swapsWithSole [.Subscript o i p2] e pos.line env = pure false) (hw : ∀ env, swappedStores [.Subscript o i p2] e env = pure none) (h1 : ∀ env, (assignEach [.Subscript o i p2] env).map (·.2) = [assign (.Subscript o i p2) env]) :
    SS C N sc k (.Assign [.Subscript o i p2] e pos) (setIxS f F O I) := by
  refine ⟨fun X W Bd tk => ps_imp (ps_asg (h.st.run X W Bd.toBd tk) (pg_sub (ho.run X W Bd.toBd tk) (hi.run X W Bd.toBd tk) (hs X Bd.toBd) (ha _)) (hsw _) (hw _) (h1 _)) fun D σ H ⟨ι, m, r, q⟩ => ⟨ι, m, r, ?_⟩⟩
  refine OkS.ex q fun a m1 ι1 H1 v eq ex r1 ra q1 => ⟨ι1, m1, r1, ?_⟩
  refine OkS.ex q1 fun o m2 ι2 H2 ov eq2 ex2 r2 ro q2 => ⟨ι2, m2, r2, ?_⟩
  refine OkS.ex q2 fun i m3 ι3 H3 iv eq3 ex3 r3 ri q3 => ?_
  refine hf.ok (W := W) r3 (ro.ext ex3) ri (ra.ext (ex2.trans ex3)) ?_
  refine OkS.ex q3 fun u m4 ι4 H4 uv eq4 ex4 r4 _ q4 => q4 ι4 H4 σ .refl r4

/-! ### a, b = x, y -/
def parS (i j : Nat) (Fs : Ex (List AV)) : Stm := fun m => exS (Fs m) fun as m1 => match as with
  | [a, b] => match a.isS || b.isS with
    | false => .nx (setSl (setSl m1 i (some (.av a))) j (some (.av b)))
    | true => .stuck
  | _ => .stuck
def par3S (i j l : Nat) (Fs : Ex (List AV)) : Stm := fun m => exS (Fs m) fun as m1 => match as with
  | [a, b, c] => match a.isS || (b.isS || c.isS) with
    | false => .nx (setSl (setSl (setSl m1 i (some (.av a))) j (some (.av b))) l (some (.av c)))
    | true => .stuck
  | _ => .stuck
theorem locL_of {x : Str} (h : locL sc x = true) : sc.names.lookup x = some .local := by
  unfold locL at h
  split at h
  · assumption
  · cases h
theorem avrs3 {ι : Sum Nat Nat → Addr} {H : Hp} {n : Nat} {a b c : AV} {vs : List V} (h : AVRs C ι H n [a, b, c] vs) : ∃ v w u, vs = [v, w, u] ∧ AVR C ι H n a v ∧ AVR C ι H n b w ∧ AVR C ι H n c u := by
  obtain ⟨v, r, rfl, h1, h2⟩ := h
  obtain ⟨w, u, rfl, h3, h4⟩ := avrs2 h2
  exact ⟨v, w, u, rfl, h1, h3, h4⟩
theorem SS.par {i j : Nat} {x y : Str} {a b : Expr} {Fs : Ex (List AV)} {px py pt : Pos} {kt k2 pt2} (hi : N[i]? = some x) (hj : N[j]? = some y) (hij : i ≠ j) (hx : locL sc x = true) (hy : locL sc y = true) (ha : SAs C N sc k [a, b] Fs)
    (hw : ∀ env : Env, env.scope = sc → swappedStores [.Tuple [.Name x px, .Name y py] kt pt] (.Tuple [a, b] k2 pt2) env = pure (some [x, y])) (hs : ∀ env, swapsWithSole [.Tuple [.Name x px, .Name y py] kt pt] (.Tuple [a, b] k2 pt2) pos.line env = pure false) :
    SS C N sc k (.Assign [.Tuple [.Name x px, .Name y py] kt pt] (.Tuple [a, b] k2 pt2) pos) (parS i j Fs) := by
  refine ⟨fun X W Bd tk => ps_imp (ps_par Bd.calm (by rw [Bd.hN]; exact Bd.nd) (by rw [Bd.hN]; exact hi) (by rw [Bd.hN]; exact hj) hij (by rw [Bd.hsc]; exact locL_of hx) (by rw [Bd.hsc]; exact locL_of hy) (ha.run X W Bd.toBd tk) (hw _ Bd.hsc) (hs _)) fun D σ H ⟨ι, m, r, q⟩ => ⟨ι, m, r, ?_⟩⟩
  refine OkS.ex q fun as m1 ι1 H1 vs eq ex r1 ra q1 => ?_
  split at q1
  · obtain ⟨v, w, rfl, h1, h2⟩ := avrs2 ra
    split at q1
    · rename_i es
      rw [Bool.or_eq_false_iff] at es
      exact ⟨v, w, rfl, q1 ι1 H1 _ (Ext.setAv.trans Ext.setAv) ((r1.setAv es.1 h1).setAv es.2 h2)⟩
    · exact q1.elim
  · exact q1.elim
theorem SS.par3 {i j l : Nat} {x y z : Str} {a b c : Expr} {Fs : Ex (List AV)} {px py pz pt : Pos} {kt k2 pt2} (hi : N[i]? = some x) (hj : N[j]? = some y) (hl : N[l]? = some z) (hij : i ≠ j) (hil : i ≠ l) (hjl : j ≠ l) (hx : locL sc x = true) (hy : locL sc y = true) (hz : locL sc z = true) (ha : SAs C N sc k [a, b, c] Fs)
    (hw : ∀ env : Env, env.scope = sc → swappedStores [.Tuple [.Name x px, .Name y py, .Name z pz] kt pt] (.Tuple [a, b, c] k2 pt2) env = pure (some [x, y, z])) (hs : ∀ env, swapsWithSole [.Tuple [.Name x px, .Name y py, .Name z pz] kt pt] (.Tuple [a, b, c] k2 pt2) pos.line env = pure false) :
    SS C N sc k (.Assign [.Tuple [.Name x px, .Name y py, .Name z pz] kt pt] (.Tuple [a, b, c] k2 pt2) pos) (par3S i j l Fs) := by
  refine ⟨fun X W Bd tk => ps_imp (ps_par3 Bd.calm (by rw [Bd.hN]; exact Bd.nd) (by rw [Bd.hN]; exact hi) (by rw [Bd.hN]; exact hj) (by rw [Bd.hN]; exact hl) hij hil hjl (by rw [Bd.hsc]; exact locL_of hx) (by rw [Bd.hsc]; exact locL_of hy) (by rw [Bd.hsc]; exact locL_of hz) (ha.run X W Bd.toBd tk) (hw _ Bd.hsc) (hs _)) fun D σ H ⟨ι, m, r, q⟩ => ⟨ι, m, r, ?_⟩⟩
  refine OkS.ex q fun as m1 ι1 H1 vs eq ex r1 ra q1 => ?_
  split at q1
  · obtain ⟨v, w, u, rfl, h1, h2, h3⟩ := avrs3 ra
    split at q1
    · rename_i es
      simp only [Bool.or_eq_false_iff] at es
      exact ⟨v, w, u, rfl, q1 ι1 H1 _ ((Ext.setAv.trans Ext.setAv).trans Ext.setAv) (((r1.setAv es.1 h1).setAv es.2.1 h2).setAv es.2.2 h3)⟩
    · exact q1.elim
  · exact q1.elim

/-! ### x += n -/
def augS (f : Int → Int → Int) (i : Nat) (F : Ex AV) : Stm := fun m => match m.σ[i]? with
  | some (some (SV.av (.t (.int x)))) => exS (F m) fun a m1 => match a with
    | .t (.int y) => .nx (setSl m1 i (some (.av (.t (.int (f x y))))))
    | _ => .stuck
  | _ => .stuck
theorem SS.aug {i : Nat} {x : Str} {e : Expr} {F : Ex AV} {op : Operator} {f : Int → Int → Int} (hi : N[i]? = some x) (hx : locB sc x = true) (ho : ∀ X : Cx, PIp X op (ipI f)) (h : SA C N sc k e F) : SS C N sc k (.AugAssign (.Name x p2) op e pos) (augS f i F) := by
  refine ⟨fun X W B tk => ps_imp (ps_aug (i := i) (by rw [B.hN]; exact B.nd) (by rw [B.hN]; exact hi) (by rw [B.hsc]; exact loc_of hx) (h.run X W B.toBd tk) (ho X) (.inl (B.fn x))) fun D σ H ⟨ι, m, r, q⟩ => ?_⟩
  unfold augS at q
  split at q
  · rename_i z hz
    obtain ⟨_, v, h1, h2⟩ := r.slot i _ hz
    cases (show v = .int z from h2)
    refine ⟨_, h1, ι, m, r, ?_⟩
    refine OkS.ex q fun a m1 ι1 H1 u eq ex r1 ra q1 => ?_
    split at q1
    · rename_i y
      cases (show u = .int y from ra)
      exact ⟨z, y, rfl, rfl, q1 ι1 H1 _ Ext.setAv (r1.setAv rfl rfl)⟩
    · exact q1.elim
  · exact q.elim
end

/-! ### a new thing put into the store -/
def pushM (m : M) (c : Cell) : M := { m with S := m.S ++ [c] }
def boxS (i : Nat) (F : Ex RV) : Stm := fun m => exS (F m) fun v m' => match v with
  | .own c => .nx (setSl (pushM m' c) i (some (.av (.b m'.S.length))))
  | _ => .stuck
section
variable {C : Com} {σ : L2.St} {H : Hp} {ι : Sum Nat Nat → Addr} {m : M}
def newI (ι : Sum Nat Nat → Addr) (n : Nat) (a : Addr) : Sum Nat Nat → Addr := fun x => if x = .inr n then a else ι x
theorem newI_same {n : Nat} {a : Addr} : newI ι n a (.inr n) = a := by unfold newI; rw [if_pos rfl]
theorem newI_ne {n : Nat} {a : Addr} {x : Sum Nat Nat} (h : x ≠ .inr n) : newI ι n a x = ι x := by unfold newI; rw [if_neg h]
theorem live_push {c c' : Cell} {x : Sum Nat Nat} (h : live (pushM m c) x = some c') : (x = .inr m.S.length ∧ c' = c) ∨ (x ≠ .inr m.S.length ∧ live m x = some c') := by
  cases x with
  | inl i => exact .inr ⟨nofun, h⟩
  | inr j =>
    have h' : (m.S ++ [c])[j]? = some c' := h
    by_cases hj : j < m.S.length
    · rw [List.getElem?_append_left hj] at h'
      exact .inr ⟨fun e => by cases e; omega, h'⟩
    · rw [List.getElem?_append_right (by omega)] at h'
      by_cases e : j = m.S.length
      · subst e
        rw [Nat.sub_self] at h'
        cases h'
        exact .inl ⟨rfl, rfl⟩
      · rw [List.getElem?_eq_none (by simp; omega)] at h'
        cases h'
theorem Rel.push {c : Cell} {a : Addr} (r : Rel C ι σ H m) (hc : CellR C ι H m.S.length a c) (hs : c.hasS = false) (n : ¬ Lv m ι a) : Rel C (newI ι m.S.length a) σ H (pushM m c) := by
  have hlen : (pushM m c).S.length = m.S.length + 1 := by simp [pushM]
  have ag : ∀ k, k < m.S.length → newI ι m.S.length a (.inr k) = ι (.inr k) := fun k hk => newI_ne fun e => by cases e; omega
  refine ⟨r.len, fun i b h => ?_, fun i c' h => ?_, fun x c' h => ?_, fun x c' h => ?_, fun x y c' c'' hx hy e => ?_, by rw [hlen]; exact Nat.le_succ_of_le r.low⟩
  · obtain ⟨h0, v, h1, h2⟩ := r.slot i b h
    exact ⟨h0, v, h1, h2.mono2 .refl ag (by rw [hlen]; omega) h0⟩
  · rw [newI_ne (x := .inl i) (fun e => by cases e)]
    exact r.slotO i c' h
  · rcases live_push h with ⟨e, e2⟩ | ⟨ne, h2⟩
    · subst e; subst e2
      rw [newI_same]
      exact hc.mono2 .refl ag (by rw [hlen]; omega) rfl hs
    · rw [newI_ne ne]
      exact (r.cell x c' h2).mono2 .refl ag (by rw [hlen]; omega) rfl (r.noS x c' h2)
  · rcases live_push h with ⟨e, e2⟩ | ⟨ne, h2⟩
    · subst e2; exact hs
    · exact r.noS x c' h2
  · rcases live_push hx with ⟨ex, _⟩ | ⟨nx, hx⟩
    · rcases live_push hy with ⟨ey, _⟩ | ⟨ny, hy⟩
      · rw [ex, ey]
      · rw [ex, newI_same, newI_ne ny] at e
        exact absurd ⟨y, c'', hy, e.symm⟩ n
    · rcases live_push hy with ⟨ey, _⟩ | ⟨ny, hy⟩
      · rw [ey, newI_same, newI_ne nx] at e
        exact absurd ⟨x, c', hx, e⟩ n
      · rw [newI_ne nx, newI_ne ny] at e
        exact r.inj x y c' c'' hx hy e
theorem Ext.push {m0 : M} {ι0 : Sum Nat Nat → Addr} {H0 : Hp} {c : Cell} {a : Addr} (ex : Ext m0 ι0 H0 m ι H) (hl : m.base ≤ m.S.length) (f : Frs m0 ι0 H0 a) : Ext m0 ι0 H0 (pushM m c) (newI ι m.S.length a) H := by
  refine ⟨ex.mono, fun b o hb nl => ?_, fun k hk => ?_, ?_, ex.there, ex.base, fun b hbb bl => ?_⟩
  · obtain ⟨h1, h2⟩ := ex.keep b o hb nl
    refine ⟨h1, fun ⟨x, c', hx, e⟩ => ?_⟩
    rcases live_push hx with ⟨q, _⟩ | ⟨q, z⟩
    · rw [q, newI_same] at e
      exact f.ne hb nl e.symm
    · rw [newI_ne q] at e
      exact h2 ⟨x, c', z, e⟩
  · rw [newI_ne (fun e => by cases e; have := ex.len; omega)]
    exact ex.b k hk
  · have := ex.len
    simp only [pushM, List.length_append, List.length_singleton]; omega
  · intro j c' k hj hk hjb
    have hb0 := ex.base
    rcases live_push (m := m) (x := .inr j) (show live (pushM m c) (.inr j) = some c' from hj) with ⟨e, _⟩ | ⟨_, h2⟩
    · cases e; omega
    · exact ex.box b hbb bl j c' k h2 hk hjb
end
section
variable {C : Com} {N : List Str} {sc : Scope} {k : Nat} {pos : Pos}
theorem SS.box {i : Nat} {x : Str} {e : Expr} {F : Ex RV} {pos' : Pos} (hi : N[i]? = some x) (hx : locB sc x = true) (h : SE C N sc k e F) (hs : ∀ env, swapsWith e (some (.Name x pos')) pos.line env = pure false) : SS C N sc k (.Assign [.Name x pos'] e pos) (boxS i F) := by
  refine ⟨fun X W B tk => ps_imp (ps_set (i := i) (by rw [B.hN]; exact B.nd) (by rw [B.hN]; exact hi) (by rw [B.hsc]; exact loc_of hx) (h.run X W B.toBd tk) (hs X.env) (.inl (B.fn x))) fun D σ H ⟨ι, m, r, q⟩ => ⟨ι, m, r, ?_⟩⟩
  have q0 := q
  refine OkS.ex q fun a m1 ι1 H1 v eq ex r1 ra q1 => ?_
  cases a with
  | av a => exact q1.elim
  | own c =>
    obtain ⟨a, rfl, hc, hs', nl, fr⟩ := ra
    unfold boxS at q0
    rw [eq] at q0
    exact q0 _ H1 _ ((ex.toExt.push r1.low fr).trans Ext.setAv) ((r1.push hc hs' nl).setAv rfl ⟨by simp [pushM], by rw [newI_same]⟩)
end

/-! ### tables of the module: dicts of texts that never change -/
structure KTab (C : Com) (x : Str) (d : Addr) (tb : List Nat → Option D) : Prop where
  mg : C.mg x = some (.ref d)
  kd : ∃ es n, KDict C.K C.w d es n
  no : ∀ z, tb z = none → PySem.W.nsIn C.K d (mkS z) = some none
  yes : ∀ z v, tb z = some v → ∃ u vv, PySem.W.nsIn C.K d (mkS z) = some (some u) ∧ RelV vv u ∧ ∀ H, Den C H v vv
def inK (neg : Bool) (tb : List Nat → Option D) : AV → M → Out RV := fun a m => match a with
  | .t (.str z) => okD (.bl (neg != (tb z).isSome)) m
  | _ => .stuck
def ixK (tb : List Nat → Option D) : AV → M → Out RV := fun a m => match a with
  | .t (.str z) => okD? (tb z) m
  | _ => .stuck
section
variable {C : Com} {N : List Str} {sc : Scope} {k : Nat} {pos p2 : Pos} {x : Str} {d : Addr} {tb : List Nat → Option D} {e : Expr} {F : Ex AV}
theorem ktab_ns (T : KTab C x d tb) (z : List Nat) : ∃ r, PySem.W.nsIn C.K d (mkS z) = some r ∧ r.isSome = (tb z).isSome := by
  cases h : tb z with
  | none => exact ⟨none, T.no z h, rfl⟩
  | some v =>
    obtain ⟨u, _, h1, _⟩ := T.yes z v h
    exact ⟨some u, h1, rfl⟩
theorem SE.inK (T : KTab C x d tb) (hg : glB sc x = true) (hd : (x == ("__debug__" : Str)) = false) (ha : SA C N sc k e F) (hm : behindInMarks .In (.Name x p2) = false) : SE C N sc k (.Compare e [.In] [.Name x p2] pos) (e1 (inK false tb) F) := by
  refine ⟨fun X W B tk => ?_⟩
  have eC := B.com
  subst eC
  obtain ⟨es, n, kd⟩ := T.kd
  refine pe_imp (pe_cmpR (op_in_kd kd) (ha.run X W B tk) (pe_glob (v := .ref d) (gl_of B hg) T.mg rfl hd) hm) fun σ H Q ⟨ι, m, rl, q⟩ => ⟨ι, m, rl, ?_⟩
  refine OkO.bind q fun a m1 ι1 H1 v eq ex r1 ra q1 => ?_
  cases a with
  | t dd =>
    cases dd with
    | str z =>
      obtain ⟨r, h1, h2⟩ := ktab_ns T z
      exact ⟨mkS z, r, ra, rfl, h1, by rw [h2]; simpa using okT r1 q1 rfl⟩
    | _ => exact q1.elim
  | _ => exact q1.elim
theorem SE.notInK (T : KTab C x d tb) (hg : glB sc x = true) (hd : (x == ("__debug__" : Str)) = false) (ha : SA C N sc k e F) (hm : behindInMarks .NotIn (.Name x p2) = false) : SE C N sc k (.Compare e [.NotIn] [.Name x p2] pos) (e1 (BL.inK true tb) F) := by
  refine ⟨fun X W B tk => ?_⟩
  have eC := B.com
  subst eC
  obtain ⟨es, n, kd⟩ := T.kd
  refine pe_imp (pe_cmpR (op_notIn_kd kd) (ha.run X W B tk) (pe_glob (v := .ref d) (gl_of B hg) T.mg rfl hd) hm) fun σ H Q ⟨ι, m, rl, q⟩ => ⟨ι, m, rl, ?_⟩
  refine OkO.bind q fun a m1 ι1 H1 v eq ex r1 ra q1 => ?_
  cases a with
  | t dd =>
    cases dd with
    | str z =>
      obtain ⟨r, h1, h2⟩ := ktab_ns T z
      exact ⟨mkS z, r, ra, rfl, h1, by rw [h2]; simpa using okT r1 q1 rfl⟩
    | _ => exact q1.elim
  | _ => exact q1.elim
theorem SE.ixK (T : KTab C x d tb) (hg : glB sc x = true) (hd : (x == ("__debug__" : Str)) = false) (ha : SA C N sc k e F) (hs : PlainIx e) : SE C N sc k (.Subscript (.Name x p2) e pos) (e1 (BL.ixK tb) F) := by
  refine ⟨fun X W B tk => ?_⟩
  have eC := B.com
  subst eC
  obtain ⟨es, n, kd⟩ := T.kd
  refine pe_imp (pe_ix ix_kdict (pe_glob (v := .ref d) (gl_of B hg) T.mg rfl hd) (ha.run X W B tk) hs) fun σ H Q ⟨ι, m, rl, q⟩ => ⟨ι, m, rl, ?_⟩
  refine OkO.bind q fun a m1 ι1 H1 v eq ex r1 ra q1 => ?_
  cases a with
  | t dd =>
    cases dd with
    | str z =>
      have q2 : OkR _ W σ H1 ι1 m1 m ι H Q (okD? (tb z) m1) := q1
      cases h : tb z with
      | none => rw [h] at q2; exact q2.elim
      | some v =>
        rw [h] at q2
        obtain ⟨u, vv, h1, h2, h3⟩ := T.yes z v h
        exact ⟨d, mkS z, vv, rfl, ra, ⟨es, n, u, kd.at_, kd.lit, h1, h2⟩, okT r1 q2 (h3 H1)⟩
    | _ => exact q1.elim
  | _ => exact q1.elim
end
end BL
end part_BLr

section part_BLs
set_option Elab.async false
set_option linter.all false
set_option maxRecDepth 100000
set_option maxHeartbeats 4000000
set_option autoImplicit false
/-! BLs: dicts with keys of texts and ints: displays, get, d[k]. -/
namespace BL
open PySem PySem.Spec PyProof.Rows L2

/-- the same key -/
def sameK : D → D → Bool
  | .int i, .int j => i == j
  | .str x, .str y => x == y
  | _, _ => false
def lookD (kvs : List (D × D)) (k : D) : Option D := (kvs.find? fun kv => sameK kv.1 k).map (·.2)
def putD (kvs : List (D × D)) (k v : D) : List (D × D) := match kvs.any fun kv => sameK kv.1 k with
  | true => kvs.map fun kv => match sameK kv.1 k with
    | true => (kv.1, v)
    | false => kv
  | false => kvs ++ [(k, v)]
def isKey : D → Bool
  | .int _ => true
  | .str _ => true
  | _ => false
section
variable {C : Com} {H : Hp}
theorem same_key {a b : D} {p q : Key} (ha : keyD a = some p) (hb : keyD b = some q) : sameK a b = decide (p = q) := by
  cases a <;> first | (cases ha; done) | skip
  · cases ha
    cases b <;> first | (cases hb; done) | skip
    · cases hb
      rename_i i j
      show (i == j) = _
      rw [Bool.eq_iff_iff, beq_iff_eq, decide_eq_true_iff]
      exact ⟨fun e => by rw [e], fun e => Sum.inl.inj e⟩
    · cases hb; rfl
  · cases ha
    cases b <;> first | (cases hb; done) | skip
    · cases hb; rfl
    · cases hb
      rename_i x y
      show (x == y) = _
      rw [← mkS_beq, Bool.eq_iff_iff, beq_iff_eq, decide_eq_true_iff]
      exact ⟨fun e => by rw [e], fun e => Sum.inr.inj e⟩
theorem DenK.find {k : D} {q : Key} (hq : keyD k = some q) : ∀ {kvs : List (D × D)} {zs : List (Key × V)}, DenK C H kvs zs → match lookD kvs k with
    | some d => ∃ v, valV zs q = some v ∧ Den C H d v
    | none => valV zs q = none
  | [], _, h => by rw [show _ = [] from h]; rfl
  | (k', d') :: r, _, h => by
    obtain ⟨q', v', r', rfl, h0, h1, h2⟩ := h
    have ih := DenK.find hq h2
    have e := same_key h0 hq
    unfold lookD valV at ih ⊢
    rw [List.find?_cons, List.find?_cons]
    cases z : decide (q' = q) with
    | true =>
      rw [z] at e
      simp only [e, z]
      exact ⟨v', rfl, h1⟩
    | false =>
      rw [z] at e
      simp only [e, z]
      exact ih
theorem DenK.any {k : D} {q : Key} (hq : keyD k = some q) : ∀ {kvs : List (D × D)} {zs : List (Key × V)}, DenK C H kvs zs → (kvs.any fun kv => sameK kv.1 k) = zs.any fun kv => decide (kv.1 = q)
  | [], _, h => by rw [show _ = [] from h]; rfl
  | (k', d') :: r, _, h => by
    obtain ⟨q', v', r', rfl, h0, h1, h2⟩ := h
    rw [List.any_cons, List.any_cons, DenK.any hq h2, same_key h0 hq]
theorem DenK.app {k d : D} {q : Key} {v : V} (hq : keyD k = some q) (hd : Den C H d v) : ∀ {kvs : List (D × D)} {zs : List (Key × V)}, DenK C H kvs zs → DenK C H (kvs ++ [(k, d)]) (zs ++ [(q, v)])
  | [], _, h => by rw [show _ = [] from h]; exact ⟨q, v, [], rfl, hq, hd, rfl⟩
  | (k', d') :: r, _, h => by
    obtain ⟨q', v', r', rfl, h0, h1, h2⟩ := h
    exact ⟨q', v', _, rfl, h0, h1, DenK.app hq hd h2⟩
theorem DenK.map {k d : D} {q : Key} {v : V} (hq : keyD k = some q) (hd : Den C H d v) : ∀ {kvs : List (D × D)} {zs : List (Key × V)}, DenK C H kvs zs → DenK C H (kvs.map fun kv => match sameK kv.1 k with
    | true => (kv.1, d)
    | false => kv) (zs.map fun kv => if kv.1 = q then (kv.1, v) else kv)
  | [], _, h => by rw [show _ = [] from h]; rfl
  | (k', d') :: r, _, h => by
    obtain ⟨q', v', r', rfl, h0, h1, h2⟩ := h
    have ih := DenK.map (d := d) (v := v) hq hd h2
    rw [List.map_cons, List.map_cons]
    have e := same_key h0 hq
    by_cases z : q' = q
    · rw [decide_eq_true z] at e
      refine ⟨q', v, _, ?_, ?_, ?_, ih⟩
      · show (if q' = q then (q', v) else (q', v')) :: _ = _
        rw [if_pos z]
      · show keyD (match sameK k' k with
          | true => (k', d)
          | false => (k', d')).1 = _
        rw [e]; exact h0
      · show Den C H (match sameK k' k with
          | true => (k', d)
          | false => (k', d')).2 v
        rw [e]; exact hd
    · rw [decide_eq_false z] at e
      refine ⟨q', v', _, ?_, ?_, ?_, ih⟩
      · show (if q' = q then (q', v) else (q', v')) :: _ = _
        rw [if_neg z]
      · show keyD (match sameK k' k with
          | true => (k', d)
          | false => (k', d')).1 = _
        rw [e]; exact h0
      · show Den C H (match sameK k' k with
          | true => (k', d)
          | false => (k', d')).2 v'
        rw [e]; exact h1
theorem DenK.put {k d : D} {q : Key} {v : V} (hq : keyD k = some q) (hd : Den C H d v) {kvs : List (D × D)} {zs : List (Key × V)} (h : DenK C H kvs zs) : DenK C H (putD kvs k d) (putK zs q v) := by
  unfold putD putK
  rw [DenK.any hq h]
  cases zs.any fun kv => decide (kv.1 = q) with
  | true => rw [if_pos rfl]; exact DenK.map hq hd h
  | false => rw [if_neg Bool.false_ne_true]; exact DenK.app hq hd h
theorem key_of {k : D} {v : V} (h : isKey k = true) (hd : Den C H k v) : ∃ q, keyD k = some q ∧ v = kV q := by
  cases k <;> first | (cases h; done) | skip
  · exact ⟨_, rfl, hd⟩
  · exact ⟨_, rfl, hd⟩
theorem DenK.length : ∀ {ds : List (D × D)} {vs : List (Key × V)}, DenK C H ds vs → vs.length = ds.length
  | [], _, h => by cases (show _ = [] from h); rfl
  | (_, _) :: ds, vs, h => by
    obtain ⟨q, v, r, rfl, _, _, h2⟩ := h
    simp [DenK.length h2]
end

/-! ### displays -/
def PairsR (C : Com) (H : Hp) : List (D × D) → List (V × V) → Prop
  | [], ps => ps = []
  | (k, d) :: r, ps => ∃ x y t, ps = (x, y) :: t ∧ Den C H k x ∧ Den C H d y ∧ PairsR C H r t
theorem PairsR.mono {C : Com} {H H' : Hp} (m : Mono H H') : ∀ {ds : List (D × D)} {ps : List (V × V)}, PairsR C H ds ps → PairsR C H' ds ps
  | [], _, h => h
  | (_, _) :: _, _, h => by
    obtain ⟨x, y, t, e, h1, h2, h3⟩ := h
    exact ⟨x, y, t, e, Den.mono m _ _ h1, Den.mono m _ _ h2, PairsR.mono m h3⟩
def tPP (C : Com) (W : WX) (F : Ex (List (D × D))) : L2.St → Hp → (List (V × V) → Hp → Prop) → Prop := fun σ H Q => ∃ ι m, Rel C ι σ H m ∧ OkO C W (fun _ H' _ ds ps => PairsR C H' ds ps) σ H ι m Q (F m)
structure SPP (C : Com) (N : List Str) (sc : Scope) (k : Nat) (pos : Pos) (keys : List (Option Expr)) (values : List Expr) (F : Ex (List (D × D))) : Prop where
  run : ∀ X W, Bd C N sc k X → Takes X W → ∃ trs, PPs X pos keys values trs ∧ ∀ σ H Q, tPP C W F σ H Q → tPairs trs σ H Q
def pairN : Ex (List (D × D)) := fun m => .ok [] m
def pairC (F G : Ex AV) (R : Ex (List (D × D))) : Ex (List (D × D)) := fun m => (F m).bind fun a m1 => match a with
  | .t k => (stE G m1).bind fun b m2 => match b with
    | .t d => (R m2).bind fun r m3 => .ok ((k, d) :: r) m3
    | _ => .stuck
  | _ => .stuck
def mergeD (kvs more : List (D × D)) : List (D × D) := more.foldl (fun acc kv => putD acc kv.1 kv.2) kvs
def dispE (F : Ex (List (D × D))) : Ex RV := fun m => (F m).bind fun ps m1 => match ps.all (fun p => isKey p.1) && Nat.ble ps.length 15 with
  | true => .ok (.own (.dic (mergeD [] ps))) m1
  | false => .stuck
section
variable {C : Com} {N : List Str} {sc : Scope} {k : Nat} {pos apos cpos p2 : Pos}
theorem SPP.nil : SPP C N sc k pos [] [] pairN := ⟨fun X W B tk => ⟨[], pps_nil, fun σ H Q ⟨ι, m, rl, q⟩ => q ι H [] .refl rl rfl⟩⟩
theorem SPP.cons {a b : Expr} {ks : List (Option Expr)} {vs : List Expr} {F G : Ex AV} {R : Ex (List (D × D))} (ha : SA C N sc k a F) (hb : SA C N sc k b G) (hr : SPP C N sc k pos ks vs R) : SPP C N sc k pos (some a :: ks) (b :: vs) (pairC F G R) := by
  refine ⟨fun X W B tk => ?_⟩
  obtain ⟨trs, h1, h2⟩ := hr.run X W B tk
  refine ⟨_, pps_cons (ha.run X W B tk) (hb.st.run X W B tk) h1, fun σ H Q ⟨ι, m, rl, q⟩ => ⟨ι, m, rl, ?_⟩⟩
  refine OkO.bind q fun a m1 ι1 H1 x e1 ex1 r1 rx q1 => ?_
  cases a with
  | b n => exact q1.elim
  | s i => exact q1.elim
  | t kd =>
    refine ⟨ι1, m1, r1, ?_⟩
    refine OkO.bind q1 fun b m2 ι2 H2 y e2 ex2 r2 ry q2 => ?_
    cases b with
    | b n => exact q2.elim
    | s i => exact q2.elim
    | t dd =>
      refine h2 _ _ _ ⟨ι2, m2, r2, ?_⟩
      refine OkO.bind q2 fun r m3 ι3 H3 ps e3 ex3 r3 rp q3 => ?_
      exact q3 ι3 H3 _ .refl r3 ⟨x, y, ps, rfl, Den.mono (ex2.trans ex3).mono _ _ rx, Den.mono ex3.mono _ _ ry, rp⟩
theorem pairs_keys {H : Hp} : ∀ {ds : List (D × D)} {ps : List (V × V)}, ds.all (fun p => isKey p.1) = true → PairsR C H ds ps → ∃ kvs : List (Key × V), ps = kvs.map (fun kv => (kV kv.1, kv.2)) ∧ kvs.length = ds.length ∧ ∀ (es : List (D × D)) (zs : List (Key × V)), DenK C H es zs → DenK C H (mergeD es ds) (mergeK zs kvs)
  | [], _, _, h => by
    rw [show _ = [] from h]
    exact ⟨[], rfl, rfl, fun es zs h => h⟩
  | (k, d) :: r, _, hk, h => by
    obtain ⟨x, y, t, rfl, h1, h2, h3⟩ := h
    rw [List.all_cons, Bool.and_eq_true] at hk
    obtain ⟨q, hq, rfl⟩ := key_of hk.1 h1
    obtain ⟨kvs, rfl, hl, hm⟩ := pairs_keys hk.2 h3
    exact ⟨(q, y) :: kvs, rfl, by simp [hl], fun es zs h => hm _ _ (DenK.put hq h2 h)⟩
theorem SE.disp {keys : List (Option Expr)} {values : List Expr} {F : Ex (List (D × D))} (h : SPP C N sc k pos keys values F) (hall : keys.all (·.isSome) = true) (hl : keys.length = values.length) (h0 : keys ≠ []) (h15 : keys.length ≤ 15) : SE C N sc k (.Dict keys values pos) (dispE F) := by
  refine ⟨fun X W B tk => ?_⟩
  obtain ⟨trs, h1, h2⟩ := h.run X W B tk
  refine pe_imp (pe_disp h1 hall hl h0 h15) fun σ H Q ⟨ι, m, rl, q⟩ A hA => h2 _ _ _ ⟨ι, m, rl.new hA, ?_⟩
  have qq := q
  have en := ExtE.new (m := m) (ι := ι) (w := .dK []) hA
  have nl := rl.notLv hA
  unfold dispE at q
  cases ef : F m with
  | stuck => rw [ef] at q; exact q.elim
  | exc x m1 =>
    rw [ef] at q
    exact fun ι' H' cls d ex r x => q ι' H' cls d (en.trans ex) r x
  | ok ps m1 =>
    rw [ef] at q
    intro ι1 H1 vs ex r1 rp
    obtain ⟨k1, k2⟩ := ex.keep A _ upd_same nl
    have q1 : OkR C W σ H ι m m ι H Q (match ps.all (fun p => isKey p.1) && Nat.ble ps.length 15 with
      | true => .ok (.own (.dic (mergeD [] ps))) m1
      | false => .stuck) := q
    cases eo : ps.all (fun p => isKey p.1) && Nat.ble ps.length 15 with
    | false => rw [eo] at q1; exact q1.elim
    | true =>
      rw [eo] at q1
      rw [Bool.and_eq_true] at eo
      obtain ⟨kvs, e1, hlen, hm⟩ := pairs_keys eo.1 rp
      refine ⟨k1, kvs, e1, by rw [hlen]; exact Nat.le_of_ble_eq_true eo.2, ?_⟩
      have mo : Mono H1 (upd H1 A (.dK (mergeK [] kvs))) := Mono.put k1 trivial
      exact q1 ι1 _ _ ((en.trans ex).mid hA k1 trivial) (r1.frz k1 trivial k2) ⟨A, rfl, ⟨_, upd_same, DenK.mono mo _ _ (hm [] [] rfl)⟩, rfl, k2, .inl hA⟩

/-! ### get, d[k] -/
def getF (a : AV) (k : AV) (o : Option D) (m : M) : Out RV := match dicOf m a, k with
  | some kvs, .t k => match isKey k with
    | true => match lookD kvs k with
      | some d => okD d m
      | none => okD? o m
    | false => .stuck
  | _, _ => .stuck
theorem get_ok {W : WX} {σ : L2.St} {H : Hp} {ι : Sum Nat Nat → Addr} {m m0 : M} {ι0 : Sum Nat Nat → Addr} {H0 : Hp} {a b : AV} {v u : V} {o : Option D} {Q : VK} (rl : Rel C ι σ H m) (ra : AVR C ι H m.S.length a v) (rb : AVR C ι H m.S.length b u) (q : OkR C W σ H ι m m0 ι0 H0 Q (getF a b o m)) :
    ∃ p r, v = .ref p ∧ DGet H p u r ∧ ((∃ x, r = some x ∧ Q x H) ∨ (r = none ∧ ∃ d, o = some d ∧ ∀ x, Den C H d x → Q x H)) := by
  unfold getF at q
  split at q
  case h_2 => exact q.elim
  rename_i kvs kd ek
  obtain ⟨p, zs, rfl, h1, h2⟩ := dic_of rl ra ek
  cases hk : isKey kd with
  | false => rw [hk] at q; exact q.elim
  | true =>
    rw [hk] at q
    obtain ⟨qk, e1, e2⟩ := key_of hk rb
    have f := DenK.find e1 h2
    have q' : OkR C W σ H ι m m0 ι0 H0 Q (match lookD kvs kd with
      | some d => okD d m
      | none => okD? o m) := q
    cases el : lookD kvs kd with
    | some d =>
      rw [el] at f q'
      obtain ⟨x, h3, h4⟩ := f
      exact ⟨p, _, rfl, .inl ⟨zs, qk, h1, e2, h3.symm⟩, .inl ⟨x, rfl, okT rl q' h4⟩⟩
    | none =>
      rw [el] at f q'
      refine ⟨p, _, rfl, .inl ⟨zs, qk, h1, e2, f.symm⟩, .inr ⟨rfl, ?_⟩⟩
      cases o with
      | none => exact q'.elim
      | some d => exact ⟨d, rfl, fun x hx => okT rl q' hx⟩
def isDicA (a : AV) (m : M) : Bool := (dicOf m a).isSome
theorem isD_of {σ : L2.St} {H : Hp} {ι : Sum Nat Nat → Addr} {m : M} {a : AV} {v : V} (rl : Rel C ι σ H m) (ra : AVR C ι H m.S.length a v) (h : isDicA a m = true) : ∃ p, v = .ref p ∧ IsD H p := by
  unfold isDicA at h
  obtain ⟨kvs, e⟩ := Option.isSome_iff_exists.mp h
  obtain ⟨p, zs, rfl, h1, _⟩ := dic_of rl ra e
  exact ⟨p, rfl, .inl ⟨zs, h1⟩⟩
def eGet1 (F G : Ex AV) : Ex RV := fun m => (F m).bind fun a m1 => match isDicA a m1 with
  | true => (G m1).bind fun b m2 => getF a b (some .non) m2
  | false => .stuck
def eGet2 (F G E : Ex AV) : Ex RV := fun m => (F m).bind fun a m1 => match isDicA a m1 with
  | true => (G m1).bind fun b m2 => (E m2).bind fun z m3 => match z with
    | .t d => getF a b (some d) m3
    | _ => .stuck
  | false => .stuck
def eDix (F G : Ex AV) : Ex RV := e2 (fun a b m => getF a b none m) F G
theorem bd_dict {X : Cx} (B : Bd C N sc k X) : X.A.units + 1 < cLine := by have := B.room.un; omega
theorem SE.get2 {o e f : Expr} {F G E : Ex AV} (ho : SA C N sc k o F) (he : SA C N sc k e G) (hf : SA C N sc k f E) (m2 : ∀ X, Bd C N sc k X → M2 X o "get" apos e f cpos) : SE C N sc k (.Call (.Attribute o "get" apos) [e, f] [] cpos) (eGet2 F G E) := by
  refine ⟨fun X W B tk => pe_imp (pe_dget2 (bd_dict B) (ho.run X W B tk) (he.run X W B tk) (hf.run X W B tk) (m2 X B)) fun σ H Q ⟨ι, m, rl, q⟩ => ⟨ι, m, rl, ?_⟩⟩
  refine OkO.bind q fun a m1 ι1 H1 x e1 ex1 r1 rx q1 => ?_
  cases hd : isDicA a m1 with
  | false => rw [hd] at q1; exact q1.elim
  | true =>
    rw [hd] at q1
    obtain ⟨p, rfl, h1⟩ := isD_of r1 rx hd
    refine ⟨p, rfl, h1, ι1, m1, r1, ?_⟩
    refine OkO.bind q1 fun b m2 ι2 H2 y e2 ex2 r2 ry q2 => ⟨ι2, m2, r2, ?_⟩
    refine OkO.bind q2 fun z m3 ι3 H3 w e3 ex3 r3 rw' q3 => ?_
    cases z with
    | b n => exact q3.elim
    | s i => exact q3.elim
    | t d =>
      obtain ⟨p', r, ep, h2, h3⟩ := get_ok r3 (rx.ext (ex2.trans ex3)) (ry.ext ex3) q3
      cases ep
      refine ⟨r, h2, ?_⟩
      rcases h3 with ⟨x, rfl, h3⟩ | ⟨rfl, d', ed, h3⟩
      · exact h3
      · cases ed; exact h3 w rw'
theorem SE.get1 {o e : Expr} {F G : Ex AV} (ho : SA C N sc k o F) (he : SA C N sc k e G) (m1 : ∀ X, Bd C N sc k X → M1 X o "get" apos e cpos) : SE C N sc k (.Call (.Attribute o "get" apos) [e] [] cpos) (eGet1 F G) := by
  refine ⟨fun X W B tk => pe_imp (pe_dget1 (bd_dict B) (ho.run X W B tk) (he.run X W B tk) (m1 X B)) fun σ H Q ⟨ι, m, rl, q⟩ => ⟨ι, m, rl, ?_⟩⟩
  refine OkO.bind q fun a m1 ι1 H1 x e1 ex1 r1 rx q1 => ?_
  cases hd : isDicA a m1 with
  | false => rw [hd] at q1; exact q1.elim
  | true =>
    rw [hd] at q1
    obtain ⟨p, rfl, h1⟩ := isD_of r1 rx hd
    refine ⟨p, rfl, h1, ι1, m1, r1, ?_⟩
    refine OkO.bind q1 fun b m2 ι2 H2 y e2 ex2 r2 ry q2 => ?_
    obtain ⟨p', r, ep, h2, h3⟩ := get_ok r2 (rx.ext ex2) ry q2
    cases ep
    refine ⟨r, h2, ?_⟩
    rcases h3 with ⟨x, rfl, h3⟩ | ⟨rfl, d', ed, h3⟩
    · exact h3
    · cases ed; exact h3 _ rfl
theorem SE.dix {o i : Expr} {F G : Ex AV} (ho : SA C N sc k o F) (hi : SA C N sc k i G) (hs : NoSl i) : SE C N sc k (.Subscript o i pos) (eDix F G) := by
  refine ⟨fun X W B tk => pe_imp (pe_dget (bd_dict B) (ho.run X W B tk) (hi.run X W B tk) hs) fun σ H Q ⟨ι, m, rl, q⟩ => ⟨ι, m, rl, ?_⟩⟩
  refine OkO.bind q fun a m1 ι1 H1 x e1 ex1 r1 rx q1 => ⟨ι1, m1, r1, ?_⟩
  refine OkO.bind q1 fun b m2 ι2 H2 y e2 ex2 r2 ry q2 => ?_
  obtain ⟨p', r, ep, h2, h3⟩ := get_ok r2 (rx.ext ex2) ry q2
  rcases h3 with ⟨x, rfl, h3⟩ | ⟨rfl, d', ed, h3⟩
  · exact ⟨p', x, ep, h2, h3⟩
  · cases ed
end
end BL
end part_BLs

section part_BLt
set_option Elab.async false
set_option linter.all false
set_option maxRecDepth 100000
set_option maxHeartbeats 4000000
set_option autoImplicit false
/-! BLt: list() of anything; constants of the module; what the printed texts want. -/
namespace BL
open PySem PySem.Spec PyProof.Rows L2

/-! ### list(x) -/
def rListTx : List V → Hp → VK → Prop := fun xs H Q => ∃ x : Str, xs = [.str x] ∧ x.cps.size ≤ sizeLine ∧ ∀ p, H p = none → Q (.ref p) (upd H p (.lst (x.cps.toList.map fun c => V.str ⟨#[c]⟩)))
theorem signs_vals {x : Str} {acc : List Value} (hl : acc.length = x.cps.size) (h : ∀ (j : Nat) (v : Value), acc[j]? = some v → SignAt x j v) : Vals (x.cps.toList.map fun c => V.str ⟨#[c]⟩) acc := by
  have go : ∀ (cs : List Nat) (acc : List Value), acc.length = cs.length → (∀ (j : Nat) (v : Value), acc[j]? = some v → ∃ (c : Nat) (u : Tok), cs[j]? = some c ∧ v = Value.str ⟨#[c]⟩ u) → Vals (cs.map fun c => V.str ⟨#[c]⟩) acc := by
    intro cs
    induction cs with
    | nil =>
      intro acc hl _
      rw [List.eq_nil_of_length_eq_zero hl]
      exact .nil
    | cons c cs ih =>
      intro acc hl h
      cases acc with
      | nil => cases hl
      | cons a r =>
        obtain ⟨c', u, e1, e2⟩ := h 0 a rfl
        cases e1
        exact .cons ⟨u, e2⟩ (ih r (by simpa using hl) fun j v e => h (j + 1) v e)
  refine go _ _ (by simpa using hl) fun j v e => ?_
  obtain ⟨c, u, e1, e2⟩ := h j v e
  exact ⟨c, u, by rw [Array.getElem?_toList]; exact e1, e2⟩
theorem call_listTx {X : Cx} (hc : X.calm = true) : CallR X (.type "list") rListTx := by
  intro pins s σ H xs us Q I r q
  obtain ⟨x, ex, hx, q⟩ := q
  subst ex
  obtain ⟨u, eu, rx⟩ := vals1 r
  subst eu
  obtain ⟨t, rfl⟩ := rx
  refine call_list_str (I.ok.hd hc) x t (fun h' tk acc c' hk hD hacc => ?_) hx
  have hv := signs_vals (x := x) (acc := acc.toList) (by rw [Array.length_toList]; exact hacc.1) fun j v e => hacc.2 j v (by rw [← Array.getElem?_toList]; exact e)
  have ok : ObjOk X.prog X.w (upd H s.heap.objs.size (.lst (x.cps.toList.map fun c => V.str ⟨#[c]⟩))) h' s.heap.objs.size (.lst (x.cps.toList.map fun c => V.str ⟨#[c]⟩)) :=
    ⟨by rw [List.length_map, Array.length_toList]; exact hx, acc.toList, c', hv, by rw [Array.toArray_toList]; exact hD⟩
  exact ⟨.ref s.heap.objs.size, _, I.laid (t' := tk) hk (Nat.le_refl _) ok, rfl, q _ (I.hok.fresh (Nat.le_refl _))⟩
abbrev rListAll (K : PySem.W.Frag) : List V → Hp → VK → Prop := fun xs H Q => (∃ p ys, xs = [.ref p] ∧ (SqL K H p ys ∨ SqT K H p ys) ∧ ∀ l, H l = none → Q (.ref l) (upd H l (.lst ys))) ∨ (rListTx xs H Q ∨ (∃ (a : Addr) (kvs : List (Key × V)), xs = [.ref a] ∧ Rd H a (.dK kvs) ∧ ∀ p, H p = none → Q (.ref p) (upd H p (.lst (kvs.map fun kv => kV kv.1)))))
def listAF : List AV → M → Out RV := fun as m => match as with
  | [.t (.str x)] => match Nat.blt x.length lim with
    | true => .ok (.own (.lst (x.map fun c => .str [c]))) m
    | false => .stuck
  | [a] => match seqOf m a with
    | some xs => .ok (.own (.lst xs)) m
    | none => match dicOf m a with
      | some kvs => .ok (.own (.lst (kvs.map (·.1)))) m
      | none => .stuck
  | _ => .stuck
section
variable {C : Com} {N : List Str} {sc : Scope} {k : Nat} {e : Expr} {pos p : Pos}
theorem dens_signs {H : Hp} : ∀ {x : List Nat}, Dens C H (x.map fun c => .str [c]) (x.map fun c => V.str ⟨#[c]⟩)
  | [] => rfl
  | c :: x => ⟨_, _, rfl, rfl, dens_signs⟩
theorem dens_keys {H : Hp} : ∀ {kvs : List (D × D)} {zs : List (Key × V)}, DenK C H kvs zs → Dens C H (kvs.map (·.1)) (zs.map fun kv => kV kv.1)
  | [], _, h => by rw [show _ = [] from h]; rfl
  | (k, d) :: r, _, h => by
    obtain ⟨q, v, t, rfl, h0, h1, h2⟩ := h
    refine ⟨kV q, _, rfl, ?_, dens_keys h2⟩
    cases k <;> first | (cases h0; done) | skip
    · cases h0; rfl
    · cases h0; rfl
theorem imp_listA : ImpL C listAF (rListAll C.K) := by
  constructor
  intro W σ H ι m m0 ι0 H0 as vs Q rl ra ex q
  unfold listAF at q
  split at q
  · rename_i x
    obtain ⟨v, rfl, h1⟩ := avrs1 ra
    cases (show v = .str (mkS x) from h1)
    split at q
    · rename_i eo
      refine .inr (.inl ⟨mkS x, rfl, ?_, ?_⟩)
      · show x.toArray.size ≤ _
        rw [List.size_toArray]; exact Nat.le_of_lt (lim_line eo)
      · have := newL rl ex q (dens_signs (x := x))
        simpa [mkS] using this
    · exact q.elim
  · rename_i a _
    obtain ⟨v, rfl, h1⟩ := avrs1 ra
    cases es : seqOf m a with
    | none =>
      rw [es] at q
      cases ek : dicOf m a with
      | none => rw [ek] at q; exact q.elim
      | some kvs =>
        rw [ek] at q
        obtain ⟨p, zs, rfl, h2, h3⟩ := dic_of rl h1 ek
        exact .inr (.inr ⟨p, zs, rfl, h2, newL rl ex q (dens_keys h3)⟩)
    | some xs =>
      rw [es] at q
      obtain ⟨p, ws, rfl, h2, h3⟩ := seq_of rl h1 es
      exact .inl ⟨p, ws, rfl, h2, newL rl ex q h3⟩
  · exact q.elim
theorem call_listA {X : Cx} (B : Bd C N sc k X) : CallR X (.type "list") (rListAll C.K) := by
  have := B.com
  subst this
  exact call_list_of.or ((call_listTx B.calm).or (call_listD B.calm))

/-! ### bits -/
def seE (F : Ex AV) : Ex RV := fun m => (F m).bind fun a m' => .ok (.av a) m'
theorem SA.ev {F : Ex AV} (h : SA C N sc k e F) : SE C N sc k e (seE F) := h.se
theorem SA.glb {x : Str} {d : D} {u : Value} (hg : glB sc x = true) (hm : C.mg x = some u) (h : ∀ H, ∃ v, RelV v u ∧ Den C H d v) (hd : (x == ("__debug__" : Str)) = false) : SA C N sc k (.Name x pos) (pureE d) := by
  refine ⟨fun X W B tk => ?_⟩
  have eC := B.com
  subst eC
  refine ⟨fun pins s σ H Q I ⟨ι, m, rl, q⟩ => ?_⟩
  obtain ⟨v, h1, h2⟩ := h H
  exact ld_glob I (gl_of B hg) hm ⟨v, H, I, h1, q ι H v .refl rl h2⟩ hd
def negF : AV → M → Out RV := fun a m => match a with
  | .t (.int i) => okD (.int (-i)) m
  | _ => .stuck
theorem SE.usub {F : Ex AV} (h : SA C N sc k e F) : SE C N sc k (.UnaryOp .USub e pos) (e1 negF F) := by
  refine ⟨fun X W B tk => pe_imp (pe_un un_neg (h.run X W B tk)) fun σ H Q ⟨ι, m, rl, q⟩ => ⟨ι, m, rl, ?_⟩⟩
  refine OkO.bind q fun a m1 ι1 H1 v eq ex r1 ra q1 => ?_
  cases a with
  | t d =>
    cases d with
    | int i => exact ⟨i, ra, okT r1 q1 rfl⟩
    | _ => exact q1.elim
  | _ => exact q1.elim
theorem SE.ife {c a b : Expr} {T : Ex Bool} {F G : Ex RV} (hc : SB C N sc k c T) (ha : SE C N sc k a F) (hb : SE C N sc k b G) : SE C N sc k (.IfExp c a b pos) (ifE T F G) := by
  refine ⟨fun X W B tk => pe_imp (pe_ifExp (hc.run X W B tk) (ha.run X W B tk) (hb.run X W B tk)) fun σ H Q ⟨ι, m, rl, q⟩ => ⟨ι, m, rl, ?_⟩⟩
  refine OkO.bind q fun u m1 ι1 H1 x e1 ex1 r1 rx q1 => ?_
  cases rx
  have fr : ∀ {F : Ex RV}, OkO C W (fun ι' H' m' a v => RR C m ι H ι' H' m' a v) σ H1 ι1 m1 Q (F m1) → OkO C W (fun ι' H' m' a v => RR C m1 ι1 H1 ι' H' m' a v) σ H1 ι1 m1 Q (F m1) := fun {F} h => by
    cases ef : F m1 with
    | ok a m2 =>
      rw [ef] at h
      exact fun ι2 H2 v ex2 r2 rv => h ι2 H2 v ex2 r2 (rv.from ex1.toExt r1)
    | exc x m2 => rw [ef] at h; exact h
    | stuck => rw [ef] at h; exact h
  cases u with
  | true => exact ⟨ι1, m1, r1, fr q1⟩
  | false => exact ⟨ι1, m1, r1, fr q1⟩
def noS : Stm := fun _ => .stuck
theorem SSs.no {body : List Stmt} : SSs C N sc k body noS := ⟨fun X W B tk => ⟨fun pins s σ H D I ⟨_, _, _, q⟩ => q.elim⟩⟩
/-- chained comparisons of ints: a < b < c -/
def chE (p p' : Int → Int → Bool) (F G E : Ex AV) : Ex RV := fun m => (F m).bind fun a m1 => match a with
  | .t (.int x) => (G m1).bind fun b m2 => match b with
    | .t (.int y) => match p x y with
      | true => (E m2).bind fun c m3 => match c with
        | .t (.int z) => okD (.bl (p' y z)) m3
        | _ => .stuck
      | false => okD (.bl false) m2
    | _ => .stuck
  | _ => .stuck
theorem SE.chain {a b c : Expr} {op op' : CmpOp} {F G E : Ex AV} {p p' : Int → Int → Bool} (ha : SA C N sc k a F) (hb : SA C N sc k b G) (hc : SA C N sc k c E) (ho : ∀ X : Cx, OpR X (compareOp op) (rI0 fun i j => .bl (p i j))) (ho' : ∀ X : Cx, OpR X (compareOp op') (rI0 fun i j => .bl (p' i j)))
    (hm : lastMarks [op, op'] [b, c] = false) : SE C N sc k (.Compare a [op, op'] [b, c] pos) (chE p p' F G E) := by
  refine ⟨fun X W B tk => pe_imp (pe_chain (ho X) (ho' X) (ha.run X W B tk) (hb.run X W B tk) (hc.run X W B tk) hm) fun σ H Q ⟨ι, m, rl, q⟩ => ⟨ι, m, rl, ?_⟩⟩
  refine OkO.bind q fun a m1 ι1 H1 x e1 ex1 r1 rx q1 => ⟨ι1, m1, r1, ?_⟩
  split at q1
  case h_2 => exact q1.elim
  rename_i i
  cases (show x = .int i from rx)
  refine OkO.bind q1 fun b m2 ι2 H2 y e2 ex2 r2 ry q2 => ?_
  split at q2
  case h_2 => exact q2.elim
  rename_i j
  cases (show y = .int j from ry)
  refine ⟨i, j, rfl, rfl, p i j, rfl, ?_⟩
  cases hp : p i j with
  | false =>
    rw [hp] at q2
    rw [if_neg Bool.false_ne_true]
    exact q2 ι2 H2 _ .refl r2 rfl
  | true =>
    rw [hp] at q2
    rw [if_pos rfl]
    refine ⟨ι2, m2, r2, ?_⟩
    refine OkO.bind q2 fun c m3 ι3 H3 z e3 ex3 r3 rz q3 => ?_
    split at q3
    case h_2 => exact q3.elim
    rename_i l
    cases (show z = .int l from rz)
    exact ⟨j, l, rfl, rfl, q3 ι3 H3 _ .refl r3 rfl⟩
end
end BL
end part_BLt

section part_BLu
set_option Elab.async false
set_option linter.all false
set_option maxRecDepth 100000
set_option maxHeartbeats 4000000
set_option autoImplicit false
/-! BLu: the shapes that the printed texts use. -/
namespace BL
open PySem PySem.Spec PyProof.Rows L2

/-- the module's def x stands and does g -/
def Ok (C : Com) (x : Str) (ps : List Str) (j : Nat) (g : Fn) : Prop := ∃ f fd, C.mg x = some (.ref f) ∧ PySem.W.keepIn C.K (.ref f) = true ∧ Binds C.K fd ps [] ∧ FnOk C.prog C.w C.K C.mg C.base (L2.CX C.prog C.w) j f fd ps (SpF C ps.length g)
/-- the module's def x, as the text has it -/
def Has (C : Com) (x : Str) (st : Stmt) : Prop := ∃ f fd, C.mg x = some (.ref f) ∧ FunD C.K x x (defArgs st) (defBody st) (defScope st) [] [] f fd
abbrev BindS (x : Str) (st : Stmt) (ps : List Str) : Prop := ∀ (kV doc pm : Value) (an : Option Addr) (cdv ct : Value) (us : List Value), us.length = ps.length → bindArgs (PySem.W.fnOf x x (defArgs st) (defBody st) (defScope st) .none kV doc pm an cdv ct) ⟨us, []⟩ = pure (ps.zip us)
section
variable {C : Com} {N ps : List Str} {x : Str} {st : Stmt} {k : Nat} {G : Stm}
theorem Has.t (h : Has C x st) (S : C8.scC N ps (defScope st) = true) (b : BindS x st ps) (hG : SSs C N (defScope st) k (defBody st) G) : Ok C x ps (k + 1) (mkT N.length G) := by
  obtain ⟨f, fd, hm, F⟩ := h
  exact ⟨f, fd, hm, F.kp, F.bindsN b, fn_T F (C8.fnScope_by S) hG⟩
theorem Has.n (h : Has C x st) (S : C8.scC N ps (defScope st) = true) (b : BindS x st ps) (hG : SSs C N (defScope st) k (defBody st) G) : Ok C x ps (k + 1) (mkN N.length G) := by
  obtain ⟨f, fd, hm, F⟩ := h
  exact ⟨f, fd, hm, F.kp, F.bindsN b, fn_N F (C8.fnScope_by S) hG⟩
end
section
variable {C : Com} {N ps : List Str} {sc : Scope} {k j : Nat} {pos p p2 : Pos} {x : Str} {g : Fn} {e a b : Expr} {es : List Expr} {Fs : Ex (List AV)} {F G : Ex AV}
theorem SE.fn (h : Ok C x ps j g) (hj : j ≤ k) (ha : SAs C N sc k (e :: es) Fs) (hg : glB sc x = true) (hdb : (x == ("__debug__" : Str)) = false) (he : ∀ env : Env, starEach (e :: es) env = (false, eval e env) :: starEach es env) (hpl : ∀ env : Env, (backTo pos (starEach es env)).any (·.1) = false) :
    SE C N sc k (.Call (.Name x p) (e :: es) [] pos) (callE g ps.length [] Fs) := by
  obtain ⟨f, fd, hm, hk, hb, F⟩ := h
  exact SE.call F hj hg hm hk hb .nil (fun H => rfl) ha hdb he hpl
theorem SB.eq (ha : SA C N sc k a F) (hb : SA C N sc k b G) (hm : behindInMarks .Eq b = false) : SB C N sc k (.Compare a [.Eq] [b] pos) (boolR (e2 (eqF false) F G)) := SB.cmp ha hb (fun X B => op_eqT B) (imp_eq false) hm
theorem SB.ne (ha : SA C N sc k a F) (hb : SA C N sc k b G) (hm : behindInMarks .NotEq b = false) : SB C N sc k (.Compare a [.NotEq] [b] pos) (boolR (e2 (eqF true) F G)) := SB.cmp ha hb (fun X B => op_neT B) (imp_eq true) hm
theorem SB.in (ha : SA C N sc k a F) (hb : SA C N sc k b G) (hm : behindInMarks .In b = false) : SB C N sc k (.Compare a [.In] [b] pos) (boolR (e2 (inF false) F G)) := SB.cmp ha hb (fun X B => op_inT B) (imp_in false) hm
theorem SB.notIn (ha : SA C N sc k a F) (hb : SA C N sc k b G) (hm : behindInMarks .NotIn b = false) : SB C N sc k (.Compare a [.NotIn] [b] pos) (boolR (e2 (inF true) F G)) := SB.cmp ha hb (fun X B => op_notInT B) (imp_in true) hm
theorem SB.lt (ha : SA C N sc k a F) (hb : SA C N sc k b G) (hm : behindInMarks .Lt b = false) : SB C N sc k (.Compare a [.Lt] [b] pos) (boolR (e2 (d2 ltD) F G)) := SB.cmp ha hb (fun X B => op_lt) (imp_cmp _) hm
theorem SB.le (ha : SA C N sc k a F) (hb : SA C N sc k b G) (hm : behindInMarks .LtE b = false) : SB C N sc k (.Compare a [.LtE] [b] pos) (boolR (e2 (d2 leD) F G)) := SB.cmp ha hb (fun X B => op_le) (imp_cmp _) hm
theorem SB.gt (ha : SA C N sc k a F) (hb : SA C N sc k b G) (hm : behindInMarks .Gt b = false) : SB C N sc k (.Compare a [.Gt] [b] pos) (boolR (e2 (d2 gtD) F G)) := SB.cmp ha hb (fun X B => op_gt) (imp_cmp _) hm
theorem SB.ge (ha : SA C N sc k a F) (hb : SA C N sc k b G) (hm : behindInMarks .GtE b = false) : SB C N sc k (.Compare a [.GtE] [b] pos) (boolR (e2 (d2 geD) F G)) := SB.cmp ha hb (fun X B => op_ge) (imp_cmp _) hm
theorem SB.isN (ha : SA C N sc k a F) (hb : SA C N sc k b G) (hm : behindInMarks .Is b = false) : SB C N sc k (.Compare a [.Is] [b] pos) (boolR (e2 (d2 isND) F G)) := SB.cmp ha hb (fun X B => op_isN) imp_isN hm
theorem SB.notN (ha : SA C N sc k a F) (hb : SA C N sc k b G) (hm : behindInMarks .IsNot b = false) : SB C N sc k (.Compare a [.IsNot] [b] pos) (boolR (e2 (d2 notND) F G)) := SB.cmp ha hb (fun X B => op_notN) imp_notN hm
theorem SE.lt (ha : SA C N sc k a F) (hb : SA C N sc k b G) (hm : behindInMarks .Lt b = false) : SE C N sc k (.Compare a [.Lt] [b] pos) (e2 (d2 ltD) F G) := SE.cmp ha hb (fun X B => op_lt) (imp_cmp _) hm
theorem SE.le (ha : SA C N sc k a F) (hb : SA C N sc k b G) (hm : behindInMarks .LtE b = false) : SE C N sc k (.Compare a [.LtE] [b] pos) (e2 (d2 leD) F G) := SE.cmp ha hb (fun X B => op_le) (imp_cmp _) hm
theorem SE.gt (ha : SA C N sc k a F) (hb : SA C N sc k b G) (hm : behindInMarks .Gt b = false) : SE C N sc k (.Compare a [.Gt] [b] pos) (e2 (d2 gtD) F G) := SE.cmp ha hb (fun X B => op_gt) (imp_cmp _) hm
theorem SE.ge (ha : SA C N sc k a F) (hb : SA C N sc k b G) (hm : behindInMarks .GtE b = false) : SE C N sc k (.Compare a [.GtE] [b] pos) (e2 (d2 geD) F G) := SE.cmp ha hb (fun X B => op_ge) (imp_cmp _) hm
theorem SE.isN (ha : SA C N sc k a F) (hb : SA C N sc k b G) (hm : behindInMarks .Is b = false) : SE C N sc k (.Compare a [.Is] [b] pos) (e2 (d2 isND) F G) := SE.cmp ha hb (fun X B => op_isN) imp_isN hm
theorem SE.notN (ha : SA C N sc k a F) (hb : SA C N sc k b G) (hm : behindInMarks .IsNot b = false) : SE C N sc k (.Compare a [.IsNot] [b] pos) (e2 (d2 notND) F G) := SE.cmp ha hb (fun X B => op_notN) imp_notN hm
theorem SE.sub (ha : SA C N sc k a F) (hb : SA C N sc k b G) : SE C N sc k (.BinOp a .Sub b pos) (e2 (d2 subD) F G) := SE.op ha hb (fun X B => op_sub) imp_sub
theorem SE.div (ha : SA C N sc k a F) (hb : SA C N sc k b G) : SE C N sc k (.BinOp a .FloorDiv b pos) (e2 (d2 divD) F G) := SE.op ha hb (fun X B => op_fdiv) imp_div
theorem SE.mod (ha : SA C N sc k a F) (hb : SA C N sc k b G) : SE C N sc k (.BinOp a .Mod b pos) (e2 (d2 modD) F G) := SE.op ha hb (fun X B => op_mod) imp_mod
theorem SE.pow (ha : SA C N sc k a F) (hb : SA C N sc k b G) : SE C N sc k (.BinOp a .Pow b pos) (e2 (d2 powD) F G) := SE.op ha hb (fun X B => op_pow) imp_pow
/-! built-in functions -/
structure Glo (C : Com) (sc : Scope) (x : Str) (u : Value) : Prop where
  g : glB sc x = true
  m : C.mg x = none
  v : bootBuiltins x = some u
  n : x ≠ "__name__"
  d : (x == ("__debug__" : Str)) = false
structure Star (e : Expr) (es : List Expr) (pos : Pos) : Prop where
  he : ∀ env : Env, starEach (e :: es) env = (false, eval e env) :: starEach es env
  hp : ∀ env : Env, (backTo pos (starEach es env)).any (·.1) = false
theorem SE.len (o : Glo C sc x (.builtin "len")) (t : Star e es pos) (ha : SAs C N sc k (e :: es) Fs) : SE C N sc k (.Call (.Name x p) (e :: es) [] pos) (eL lenF Fs) := SE.callB (fun X B => by have := B.com; subst this; exact call_len) o.g o.m o.v ha imp_len o.n o.d t.he t.hp
theorem SE.int (o : Glo C sc x (.type "int")) (t : Star e es pos) (ha : SAs C N sc k (e :: es) Fs) : SE C N sc k (.Call (.Name x p) (e :: es) [] pos) (eL intF Fs) := SE.callTy (fun X B => call_int1) o.g o.m o.v ha imp_int o.n o.d t.he t.hp
theorem SE.list (o : Glo C sc x (.type "list")) (t : Star e es pos) (ha : SAs C N sc k (e :: es) Fs) : SE C N sc k (.Call (.Name x p) (e :: es) [] pos) (eL listAF Fs) := SE.callTy (fun X B => call_listA B) o.g o.m o.v ha imp_listA o.n o.d t.he t.hp
theorem SE.tuple (o : Glo C sc x (.type "tuple")) (t : Star e es pos) (ha : SAs C N sc k (e :: es) Fs) : SE C N sc k (.Call (.Name x p) (e :: es) [] pos) (eL tupleF Fs) := SE.callTy (fun X B => by have := B.com; subst this; exact call_tuple_of) o.g o.m o.v ha imp_tuple o.n o.d t.he t.hp
theorem SE.sum (o : Glo C sc x (.builtin "sum")) (t : Star e es pos) (ha : SAs C N sc k (e :: es) Fs) : SE C N sc k (.Call (.Name x p) (e :: es) [] pos) (eL (lintF fun is => some is.sum) Fs) := SE.callB (fun X B => by have := B.com; subst this; exact cr_sum B.calm) o.g o.m o.v ha imp_sum o.n o.d t.he t.hp
theorem SE.max (o : Glo C sc x (.builtin "max")) (t : Star e es pos) (ha : SAs C N sc k (e :: es) Fs) : SE C N sc k (.Call (.Name x p) (e :: es) [] pos) (eL (lintF greatest) Fs) := SE.callB (fun X B => by have := B.com; subst this; exact cr_max B.calm) o.g o.m o.v ha imp_max o.n o.d t.he t.hp
theorem SE.min (o : Glo C sc x (.builtin "min")) (t : Star e es pos) (ha : SAs C N sc k (e :: es) Fs) : SE C N sc k (.Call (.Name x p) (e :: es) [] pos) (eL (lintF least) Fs) := SE.callB (fun X B => by have := B.com; subst this; exact cr_min B.calm) o.g o.m o.v ha imp_min o.n o.d t.he t.hp
theorem SE.max2 (o : Glo C sc x (.builtin "max")) (t : Star e es pos) (ha : SAs C N sc k (e :: es) Fs) : SE C N sc k (.Call (.Name x p) (e :: es) [] pos) (eL (int2F fun i j => if j > i then j else i) Fs) := SE.callB (fun X B => call_max2 B.calm) o.g o.m o.v ha (imp_int2 _) o.n o.d t.he t.hp
theorem SE.min2 (o : Glo C sc x (.builtin "min")) (t : Star e es pos) (ha : SAs C N sc k (e :: es) Fs) : SE C N sc k (.Call (.Name x p) (e :: es) [] pos) (eL (int2F fun i j => if j < i then j else i) Fs) := SE.callB (fun X B => call_min2 B.calm) o.g o.m o.v ha (imp_int2 _) o.n o.d t.he t.hp
theorem SE.all (o : Glo C sc x (.builtin "all")) (t : Star e es pos) (ha : SAs C N sc k (e :: es) Fs) : SE C N sc k (.Call (.Name x p) (e :: es) [] pos) (eL (lblF fun bs => bs.all id) Fs) := SE.callB (fun X B => by have := B.com; subst this; exact cr_all B.calm) o.g o.m o.v ha imp_all o.n o.d t.he t.hp
theorem SE.any (o : Glo C sc x (.builtin "any")) (t : Star e es pos) (ha : SAs C N sc k (e :: es) Fs) : SE C N sc k (.Call (.Name x p) (e :: es) [] pos) (eL (lblF fun bs => bs.any id) Fs) := SE.callB (fun X B => by have := B.com; subst this; exact cr_any B.calm) o.g o.m o.v ha imp_any o.n o.d t.he t.hp
theorem SE.isa {y : Str} {T : Ty} {tp : Pos} (o : Glo C sc x (.builtin "isinstance")) (oT : Glo C sc y (.type T.nm)) (ha : SA C N sc k e F) (t : Star e [.Name y tp] pos) (he2 : ∀ env : Env, starEach [.Name y tp] env = (false, eval (.Name y tp) env) :: starEach [] env) : SE C N sc k (.Call (.Name x p) [e, .Name y tp] [] pos) (e1 (isiF T) F) :=
  SE.isi o.g o.m o.v oT.g oT.m oT.v ha o.n o.d oT.n oT.d t.he he2 t.hp
/-! methods of lists -/
variable {apos cpos : Pos} {o : Expr}
structure MSt (o : Expr) (name : Str) (e : Expr) (es : List Expr) (apos cpos : Pos) : Prop where
  hb : ∀ env : Env, attributeBase o name env (eval o env) = eval o env
  hf : ∀ env : Env, ((backTo cpos (starEach (e :: es) env)).all (fun x => !x.1) && (backToKw cpos (keywordEach [] env)).all (fun x => x.1.isSome) && decide ((e :: es).length + ([] : List Keyword).length + (if ([] : List Keyword).isEmpty then 0 else 1) < 30)) = true
  hl : (apos.endLine == cpos.line) = true
theorem SE.append (m : MSt o "append" e es apos cpos) (t : Star e es cpos) (ho : SA C N sc k o F) (ha : SAs C N sc k (e :: es) Fs) : SE C N sc k (.Call (.Attribute o "append" apos) (e :: es) [] cpos) (eMt isLstA appF F Fs) := SE.meth PySem.F.plainAttrs_list PySem.F.slot_list_append PySem.F.type_list_append (fun X B => mt_append) rcv_lst imp_app ho ha m.hb m.hf m.hl t.he t.hp
theorem SE.popAt (m : MSt o "pop" e es apos cpos) (t : Star e es cpos) (ho : SA C N sc k o F) (ha : SAs C N sc k (e :: es) Fs) : SE C N sc k (.Call (.Attribute o "pop" apos) (e :: es) [] cpos) (eMt isLstA popAtF F Fs) := SE.meth PySem.F.plainAttrs_list PySem.F.slot_list_pop PySem.F.type_list_pop (fun X B => mt_popAt) rcv_lst imp_popAt ho ha m.hb m.hf m.hl t.he t.hp
theorem SE.pop (hb : ∀ env : Env, attributeBase o "pop" env (eval o env) = eval o env) (hl : (apos.endLine == cpos.line) = true) (ho : SA C N sc k o F) : SE C N sc k (.Call (.Attribute o "pop" apos) [] [] cpos) (eMt0 isLstA popF F) := SE.meth0 PySem.F.plainAttrs_list PySem.F.slot_list_pop PySem.F.type_list_pop (fun X B => mt_pop) rcv_lst imp_pop ho hb hl
theorem SE.insert (m : MSt o "insert" e es apos cpos) (t : Star e es cpos) (ho : SA C N sc k o F) (ha : SAs C N sc k (e :: es) Fs) : SE C N sc k (.Call (.Attribute o "insert" apos) (e :: es) [] cpos) (eMt isLstA insF F Fs) := SE.meth PySem.F.plainAttrs_list PySem.F.slot_list_insert PySem.F.type_list_insert (fun X B => mt_insert) rcv_lst imp_ins ho ha m.hb m.hf m.hl t.he t.hp
theorem SE.reverse (hb : ∀ env : Env, attributeBase o "reverse" env (eval o env) = eval o env) (hl : (apos.endLine == cpos.line) = true) (ho : SA C N sc k o F) : SE C N sc k (.Call (.Attribute o "reverse" apos) [] [] cpos) (eMt0 isLstA revF F) := SE.meth0 PySem.F.plainAttrs_list PySem.F.slot_list_reverse PySem.F.type_list_reverse (fun X B => mt_reverse) rcv_lst imp_rev ho hb hl
end
end BL
namespace BL
open PySem PySem.Spec PyProof.Rows L2
/-- the module's constant x -/
def Glv (C : Com) (x : Str) (d : D) : Prop := ∃ u, C.mg x = some u ∧ ∀ H, ∃ v, RelV v u ∧ Den C H d v
def KT (C : Com) (x : Str) (tb : List Nat → Option D) : Prop := ∃ d, KTab C x d tb
section
variable {C : Com} {N : List Str} {sc : Scope} {k : Nat} {pos p2 : Pos} {x : Str} {e : Expr} {F : Ex AV} {tb : List Nat → Option D}
theorem SA.gv {d : D} (h : Glv C x d) (hg : glB sc x = true) (hd : (x == ("__debug__" : Str)) = false) : SA C N sc k (.Name x pos) (pureE d) := by
  obtain ⟨u, h1, h2⟩ := h
  exact SA.glb hg h1 h2 hd
theorem SE.inT (T : KT C x tb) (ha : SA C N sc k e F) (hg : glB sc x = true) (hd : (x == ("__debug__" : Str)) = false) (hm : behindInMarks .In (.Name x p2) = false) : SE C N sc k (.Compare e [.In] [.Name x p2] pos) (e1 (BL.inK false tb) F) := by
  obtain ⟨d, T⟩ := T
  exact SE.inK T hg hd ha hm
theorem SE.notInT (T : KT C x tb) (ha : SA C N sc k e F) (hg : glB sc x = true) (hd : (x == ("__debug__" : Str)) = false) (hm : behindInMarks .NotIn (.Name x p2) = false) : SE C N sc k (.Compare e [.NotIn] [.Name x p2] pos) (e1 (BL.inK true tb) F) := by
  obtain ⟨d, T⟩ := T
  exact SE.notInK T hg hd ha hm
theorem SE.ixT (T : KT C x tb) (ha : SA C N sc k e F) (hg : glB sc x = true) (hd : (x == ("__debug__" : Str)) = false) (hs : PlainIx e) : SE C N sc k (.Subscript (.Name x p2) e pos) (e1 (BL.ixK tb) F) := by
  obtain ⟨d, T⟩ := T
  exact SE.ixK T hg hd ha hs
theorem SB.notInT (T : KT C x tb) (ha : SA C N sc k e F) (hg : glB sc x = true) (hd : (x == ("__debug__" : Str)) = false) (hm : behindInMarks .NotIn (.Name x p2) = false) : SB C N sc k (.Compare e [.NotIn] [.Name x p2] pos) (boolR (e1 (BL.inK true tb) F)) := by
  obtain ⟨d, T⟩ := T
  refine ⟨fun X W B tk => ?_⟩
  have eC := B.com
  subst eC
  obtain ⟨es, n, kd⟩ := T.kd
  refine pt_imp (pt_cmpR (op_notIn_kd kd) (ha.run X W B tk) (pe_glob (v := .ref d) (gl_of B hg) T.mg rfl hd) hm) fun σ H Q ⟨ι, m, rl, q⟩ => ⟨ι, m, rl, ?_⟩
  unfold boolR e1 at q
  cases ef : F m with
  | stuck => rw [ef] at q; exact q.elim
  | exc x m1 => rw [ef] at q; exact q
  | ok a m1 =>
    rw [ef] at q
    intro ι1 H1 v ex r1 ra
    cases a with
    | t dd =>
      cases dd with
      | str z =>
        obtain ⟨r, h1, h2⟩ := ktab_ns T z
        refine ⟨mkS z, r, ra, rfl, h1, _, rfl, ?_⟩
        rw [h2]
        have := q ι1 H1 _ ex r1 rfl
        simpa using this
      | _ => exact q.elim
    | _ => exact q.elim
end
end BL
end part_BLu

section part_BLv
set_option Elab.async false
set_option linter.all false
set_option maxRecDepth 100000
set_option maxHeartbeats 4000000
set_option autoImplicit false
/-! BLv: from the head's facts to Wd; the end. -/
namespace BL
open PySem PySem.Spec PyProof.Rows L2

theorem keys_str {P : Params} : ∀ {l : List DictEntry} {ks : List Str}, l.map He.keyOf = He.keysIn P ks → ∀ e ∈ l, ∃ x t, e.key = .str x t ∧ x ∈ ks
  | [], _, _, e, he => by cases he
  | a :: r, [], h, _, _ => by cases h
  | a :: r, k :: ks, h, e, he => by
    have h1 : He.keyOf a :: r.map He.keyOf = some (k, PyData.keyHash P k) :: He.keysIn P ks := h
    injection h1 with h2 h3
    rcases List.mem_cons.mp he with rfl | he
    · unfold He.keyOf at h2
      split at h2
      · rename_i x t q
        obtain ⟨h5, _⟩ := Prod.mk.inj (Option.some.inj h2)
        exact ⟨x, t, q, by rw [h5]; exact List.mem_cons_self⟩
      · cases h2
    · obtain ⟨x, t, h4, h5⟩ := keys_str h3 e he
      exact ⟨x, t, h4, List.mem_cons_of_mem _ h5⟩
theorem dic_look {K : PySem.W.Frag} {a : Addr} {l : List (Option (Str × Int))} (h : He.dicW K a = some l) : ∃ oc od es n sl, K.lookup a = some ⟨oc, od, .dict es n, sl⟩ ∧ es.toList.map He.keyOf = l := by
  unfold He.dicW at h
  split at h
  · rename_i q
    split at h
    · cases h; exact ⟨_, _, _, _, _, q, rfl⟩
    · cases h
  · cases h
theorem mkS_inj {x y : List Nat} (h : mkS x = mkS y) : x = y := by
  have := congrArg (fun z : Str => z.cps.toList) h
  simpa [mkS] using this
/-- a table of the module, by what the head tells -/
theorem kt_of {C : Com} {x : Str} {d : Addr} {tab : List (List Nat × D)} {ks : List Str} {vs : List (Str × He.Dv)} (hm : C.mg x = some (.ref d)) (hd : He.dicW C.K d = some (He.keysIn C.w.params ks)) (hv : He.valsB C.K d vs = true) (hks : ks = tab.map fun p => mkS p.1)
    (hvs : ∀ p ∈ tab, ∃ q ∈ vs, q.1 = mkS p.1 ∧ ∀ H, Den C H p.2 (q.2.v C.K)) : KT C x fun z => (tab.find? fun p => p.1 == z).map (·.2) := by
  refine ⟨d, hm, He.dicW_ok hd, fun z hz => ?_, fun z v hz => ?_⟩
  · obtain ⟨oc, od, es, n, sl, hl, hk⟩ := dic_look hd
    have nz : ∀ p ∈ tab, p.1 ≠ z := fun p hp e => by
      rw [Option.map_eq_none_iff] at hz
      have := List.find?_eq_none.mp hz p hp
      exact this (beq_iff_eq.mpr e)
    have nk : ∀ e ∈ es.toList, ∃ x t, e.key = .str x t ∧ x ≠ mkS z := fun e he => by
      obtain ⟨x, t, h1, h2⟩ := keys_str hk e he
      refine ⟨x, t, h1, fun e2 => ?_⟩
      rw [hks] at h2
      obtain ⟨p, hp, ep⟩ := List.mem_map.mp h2
      exact nz p hp (mkS_inj (ep.trans e2))
    unfold PySem.W.nsIn
    rw [hl]
    have h1 : es.toList.find? (·.key.isStr (mkS z)) = none := List.find?_eq_none.mpr fun e he => by
      obtain ⟨x, t, h1, h2⟩ := nk e he
      rw [h1]
      show ¬ (x == mkS z) = true
      exact fun q => h2 (beq_iff_eq.mp q)
    have h2 : es.toList.any (·.refKey) = false := List.any_eq_false.mpr fun e he => by
      obtain ⟨x, t, h1, _⟩ := nk e he
      unfold DictEntry.refKey
      rw [h1]
      exact Bool.false_ne_true
    simp only [h1, h2]
    rfl
  · obtain ⟨p, hp, e⟩ := Option.map_eq_some_iff.mp hz
    have e1 : p.1 = z := by simpa using List.find?_some hp
    obtain ⟨q, hq, e2, hD⟩ := hvs p (List.mem_of_find?_eq_some hp)
    obtain ⟨u, h1, h2⟩ := He.valsB_ok hv hq
    exact ⟨u, _, by rw [← e1, ← e2]; exact h1, h2, by rw [← e]; exact hD⟩
theorem glv_int {C : Com} {x : Str} {i : Int} (h : ∃ t, C.mg x = some (.int i t)) : Glv C x (.int i) := by
  obtain ⟨t, h⟩ := h
  exact ⟨_, h, fun H => ⟨.int i, ⟨t, rfl⟩, rfl⟩⟩
theorem glv_str {C : Com} {x z : Str} {l : List Nat} (h : ∃ t, C.mg x = some (.str z t)) (e : z = mkS l) : Glv C x (.str l) := by
  obtain ⟨t, h⟩ := h
  subst e
  exact ⟨_, h, fun H => ⟨.str (mkS l), ⟨t, rfl⟩, rfl⟩⟩
/-- the law's promise -/
def spLaw (K : PySem.W.Frag) (n : Nat) : Sp := fun vs H Q _ => ∃ (a : Addr) (ns : List Int), vs = [.ref a] ∧ ns.length ≤ n ∧ (∀ b, H b = none ∨ ∃ o xs, H b = some (.frz o (.lst xs))) ∧ SqL K H a (ns.map V.int) ∧ ∀ H', Q (.bl true) H'
def intsD (ns : List Int) : List D := ns.map D.int
theorem dens_ints {C : Com} {H : Hp} : ∀ {ns : List Int}, Dens C H (intsD ns) (ns.map V.int)
  | [] => rfl
  | n :: ns => ⟨_, _, rfl, rfl, dens_ints⟩
theorem no_live {x : Sum Nat Nat} {c : Cell} (h : live (mS [] 0) x = some c) : False := by
  cases x with
  | inl i => simp [live] at h
  | inr j => simp [live] at h
/-- the law keeps its promise if its function is true of every script -/
theorem law_okX {C : Com} {k n : Nat} {f : Addr} {fd : FuncData} {x : Str} {g : Fn} (F : FnOk C.prog C.w C.K C.mg C.base (L2.CX C.prog C.w) k f fd [x] (SpF C 1 g)) (hg : ∀ ns : List Int, ns.length ≤ n → g 0 [.t (.kls (intsD ns))] [] = .ret (.av (.t (.bl true))) []) :
    FnOk C.prog C.w C.K C.mg C.base (L2.CX C.prog C.w) k f fd [x] (spLaw C.K n) := by
  have imp : ∀ (vs : List V) (H : Hp) (Q : VK) (E : XK), spLaw C.K n vs H Q E → SpF C 1 g vs H Q E := fun vs H Q E ⟨a, ns, e, hl, ho, hs, q⟩ => by
    subst e
    refine ⟨fun _ => 0, 0, [.t (.kls (intsD ns))], [], ?_, ⟨_, [], rfl, ⟨a, _, rfl, ?_, dens_ints⟩, rfl⟩, rfl, rfl, ?_⟩
    · exact ⟨rfl, fun i a h => by simp at h, fun i c h => by simp [live] at h, fun x c h => (no_live h).elim, fun x c h => (no_live h).elim, fun x y c c' h => (no_live h).elim, Nat.le_refl _⟩
    · rcases hs with (hs | ⟨o, hs⟩) | hs
      · exfalso
        rcases ho a with h | ⟨o, xs, h⟩
        · rw [h] at hs; cases hs
        · rw [h] at hs; cases hs
      · exact .inl ⟨o, hs⟩
      · exact .inr hs
    · rw [hg ns hl]
      intro ι' H' v _ _ rv
      rw [show v = .bl true from rv]
      exact q H'
  exact ⟨fun vs H Q E h => F.len vs H Q E (imp vs H Q E h), fun A outer s H args us vs Q E h1 h2 h3 h4 h5 => F.run A outer s H args us vs Q E h1 h2 h3 h4 (imp vs H Q E h5)⟩
/-- no exception leaves the law -/
abbrev CXN : CXT := fun _ _ _ _ _ _ => False
theorem law_ok {C : Com} {k n : Nat} {f : Addr} {fd : FuncData} {x : Str} {g : Fn} (F : FnOk C.prog C.w C.K C.mg C.base (L2.CX C.prog C.w) k f fd [x] (SpF C 1 g)) (hg : ∀ ns : List Int, ns.length ≤ n → g 0 [.t (.kls (intsD ns))] [] = .ret (.av (.t (.bl true))) []) :
    FnOk C.prog C.w C.K C.mg C.base CXN k f fd [x] (spLaw C.K n) := by
  have F2 := law_okX F hg
  refine ⟨F2.len, fun A outer s H args us vs Q E h1 h2 h3 h4 h5 => codeAny_mono (F2.run A outer s H args us vs Q (fun _ _ _ => False) h1 h2 h3 h4 h5) fun r s' hr => ?_⟩
  cases r with
  | ok o =>
    cases o with
    | ret u => exact hr
    | _ => exact hr.elim
  | error e =>
    obtain ⟨a, B, H', cls, d, _, _, _, _, _, _, _, z⟩ := hr
    exact z.elim
end BL
end part_BLv

section part_BLw
set_option Elab.async false
set_option linter.all false
set_option maxRecDepth 100000
set_option maxHeartbeats 4000000
set_option autoImplicit false
/-! BLw: reckoning with what the texts do: each combinator, step by step, no step under a binder. -/
namespace BL
open PySem PySem.Spec PyProof.Rows L2

/-! ### expressions -/
def kGet (i : Nat) (m : M) : Option (Option SV) → Out AV
  | some (some (SV.av a)) => .ok a m
  | some (some (SV.own _)) => .ok (.s i) m
  | some (some (SV.lock _)) => .ok (.s i) m
  | _ => .stuck
theorem ev_getV (i : Nat) (m : M) : getV i m = kGet i m m.σ[i]? := by
  unfold getV kGet
  generalize m.σ[i]? = o
  cases o with
  | none => rfl
  | some s =>
    cases s with
    | none => rfl
    | some v => cases v <;> rfl
theorem ev_kGet (i : Nat) (m : M) (a : AV) : kGet i m (some (some (SV.av a))) = .ok a m := rfl
theorem ev_kGetO (i : Nat) (m : M) (c : Cell) : kGet i m (some (some (SV.own c))) = .ok (.s i) m := rfl
theorem ev_pure (d : D) (m : M) : pureE d m = .ok (.t d) m := rfl
def kFrz : Out RV → Out AV
  | .ok (.av a) m => .ok a m
  | .ok (.own c) m => match cellD c with
    | some d => .ok (.t d) m
    | none => .stuck
  | .exc x m => .exc x m
  | .stuck => .stuck
theorem ev_frz (F : Ex RV) (m : M) : frzE F m = kFrz (F m) := by
  unfold frzE kFrz
  cases F m with
  | ok v m' => cases v <;> rfl
  | exc _ _ => rfl
  | stuck => rfl
theorem ev_kFrz (a : AV) (m : M) : kFrz (.ok (.av a) m) = .ok a m := rfl
theorem ev_kFrzL (xs : List D) (m : M) : kFrz (.ok (.own (.lst xs)) m) = .ok (.t (.lst xs)) m := rfl
theorem ev_kFrzD (xs : List (D × D)) (m : M) : kFrz (.ok (.own (.dic xs)) m) = .ok (.t (.dic xs)) m := rfl
theorem ev_kFrzX (x : D) (m : M) : kFrz (.exc x m) = .exc x m := rfl
def kSe : Out AV → Out RV
  | .ok a m => .ok (.av a) m
  | .exc x m => .exc x m
  | .stuck => .stuck
theorem ev_se (F : Ex AV) (m : M) : seE F m = kSe (F m) := by unfold seE kSe; cases F m <;> rfl
theorem ev_kSe (a : AV) (m : M) : kSe (.ok a m) = .ok (.av a) m := rfl
theorem ev_kSeX (x : D) (m : M) : kSe (.exc x m) = .exc x m := rfl
def kSt : Out AV → Out AV
  | .ok (.t d) m => .ok (.t d) m
  | .ok (.b n) m => .ok (.b n) m
  | .ok (.s i) m => stA (.s i) m
  | .exc x m => .exc x m
  | .stuck => .stuck
theorem ev_st (F : Ex AV) (m : M) : stE F m = kSt (F m) := by
  unfold stE kSt
  cases F m with
  | ok a m' => cases a <;> rfl
  | exc _ _ => rfl
  | stuck => rfl
theorem ev_kStT (d : D) (m : M) : kSt (.ok (.t d) m) = .ok (.t d) m := rfl
theorem ev_kStB (n : Nat) (m : M) : kSt (.ok (.b n) m) = .ok (.b n) m := rfl
def kE1 (f : AV → M → Out RV) : Out AV → Out RV
  | .ok a m => f a m
  | .exc x m => .exc x m
  | .stuck => .stuck
theorem ev_e1 (f : AV → M → Out RV) (F : Ex AV) (m : M) : e1 f F m = kE1 f (F m) := by unfold e1 kE1; cases F m <;> rfl
theorem ev_kE1 (f : AV → M → Out RV) (a : AV) (m : M) : kE1 f (.ok a m) = f a m := rfl
def kE2 (f : AV → AV → M → Out RV) (G : Ex AV) : Out AV → Out RV
  | .ok a m => kE1 (f a) (G m)
  | .exc x m => .exc x m
  | .stuck => .stuck
theorem ev_e2 (f : AV → AV → M → Out RV) (F G : Ex AV) (m : M) : e2 f F G m = kE2 f G (F m) := by
  unfold e2 kE2
  cases F m with
  | ok a m' => show (G m').bind _ = kE1 _ (G m'); cases G m' <;> rfl
  | exc _ _ => rfl
  | stuck => rfl
theorem ev_kE2 (f : AV → AV → M → Out RV) (G : Ex AV) (a : AV) (m : M) : kE2 f G (.ok a m) = kE1 (f a) (G m) := rfl
def kEL (f : List AV → M → Out RV) : Out (List AV) → Out RV
  | .ok a m => f a m
  | .exc x m => .exc x m
  | .stuck => .stuck
theorem ev_eL (f : List AV → M → Out RV) (F : Ex (List AV)) (m : M) : eL f F m = kEL f (F m) := by unfold eL kEL; cases F m <;> rfl
theorem ev_kEL (f : List AV → M → Out RV) (a : List AV) (m : M) : kEL f (.ok a m) = f a m := rfl
def kCons2 (a : AV) : Out (List AV) → Out (List AV)
  | .ok as m => .ok (a :: as) m
  | .exc x m => .exc x m
  | .stuck => .stuck
def kCons (G : Ex (List AV)) : Out AV → Out (List AV)
  | .ok a m => kCons2 a (G m)
  | .exc x m => .exc x m
  | .stuck => .stuck
theorem ev_nil (m : M) : nilE m = .ok [] m := rfl
theorem ev_cons (F : Ex AV) (G : Ex (List AV)) (m : M) : consE F G m = kCons G (F m) := by
  unfold consE kCons
  cases F m with
  | ok a m' => show (G m').bind _ = kCons2 _ (G m'); cases G m' <;> rfl
  | exc _ _ => rfl
  | stuck => rfl
theorem ev_kCons (G : Ex (List AV)) (a : AV) (m : M) : kCons G (.ok a m) = kCons2 a (G m) := rfl
theorem ev_kCons2 (a : AV) (as : List AV) (m : M) : kCons2 a (.ok as m) = .ok (a :: as) m := rfl
def kBoolR : Out RV → Out Bool
  | .ok (.av (.t (.bl b))) m => .ok b m
  | .ok _ _ => .stuck
  | .exc x m => .exc x m
  | .stuck => .stuck
theorem ev_boolR (F : Ex RV) (m : M) : boolR F m = kBoolR (F m) := by
  unfold boolR
  cases F m with
  | ok v m' =>
    cases v with
    | av a =>
      cases a with
      | t d => cases d <;> rfl
      | _ => rfl
    | own c => rfl
  | exc _ _ => rfl
  | stuck => rfl
theorem ev_kBoolR (b : Bool) (m : M) : kBoolR (.ok (.av (.t (.bl b))) m) = .ok b m := rfl
def kNot : Out Bool → Out Bool
  | .ok b m => .ok (!b) m
  | .exc x m => .exc x m
  | .stuck => .stuck
theorem ev_notB (F : Ex Bool) (m : M) : notB F m = kNot (F m) := by unfold notB kNot; cases F m <;> rfl
theorem ev_kNot (b : Bool) (m : M) : kNot (.ok b m) = .ok (!b) m := rfl
def kAnd (G : Ex Bool) : Out Bool → Out Bool
  | .ok true m => G m
  | .ok false m => .ok false m
  | .exc x m => .exc x m
  | .stuck => .stuck
theorem ev_andB (F G : Ex Bool) (m : M) : andB F G m = kAnd G (F m) := by
  unfold andB kAnd
  cases F m with
  | ok b m' => cases b <;> rfl
  | exc _ _ => rfl
  | stuck => rfl
theorem ev_kAndT (G : Ex Bool) (m : M) : kAnd G (.ok true m) = G m := rfl
theorem ev_kAndF (G : Ex Bool) (m : M) : kAnd G (.ok false m) = .ok false m := rfl
def kOr (G : Ex Bool) : Out Bool → Out Bool
  | .ok true m => .ok true m
  | .ok false m => G m
  | .exc x m => .exc x m
  | .stuck => .stuck
theorem ev_orB (F G : Ex Bool) (m : M) : orB F G m = kOr G (F m) := by
  unfold orB kOr
  cases F m with
  | ok b m' => cases b <;> rfl
  | exc _ _ => rfl
  | stuck => rfl
theorem ev_kOrT (G : Ex Bool) (m : M) : kOr G (.ok true m) = .ok true m := rfl
theorem ev_kOrF (G : Ex Bool) (m : M) : kOr G (.ok false m) = G m := rfl
def kBand (G : Ex AV) : Out AV → Out AV
  | .ok (.t (.bl true)) m => G m
  | .ok (.t (.bl false)) m => .ok (.t (.bl false)) m
  | .ok _ _ => .stuck
  | .exc x m => .exc x m
  | .stuck => .stuck
theorem ev_band (F G : Ex AV) (m : M) : bandE F G m = kBand G (F m) := by
  unfold bandE
  cases F m with
  | ok a m' =>
    cases a with
    | t d =>
      cases d with
      | bl b => cases b <;> rfl
      | _ => rfl
    | _ => rfl
  | exc _ _ => rfl
  | stuck => rfl
theorem ev_kBandT (G : Ex AV) (m : M) : kBand G (.ok (.t (.bl true)) m) = G m := rfl
theorem ev_kBandF (G : Ex AV) (m : M) : kBand G (.ok (.t (.bl false)) m) = .ok (.t (.bl false)) m := rfl
def kBor (G : Ex AV) : Out AV → Out AV
  | .ok (.t (.bl true)) m => .ok (.t (.bl true)) m
  | .ok (.t (.bl false)) m => G m
  | .ok _ _ => .stuck
  | .exc x m => .exc x m
  | .stuck => .stuck
theorem ev_bor (F G : Ex AV) (m : M) : borE F G m = kBor G (F m) := by
  unfold borE
  cases F m with
  | ok a m' =>
    cases a with
    | t d =>
      cases d with
      | bl b => cases b <;> rfl
      | _ => rfl
    | _ => rfl
  | exc _ _ => rfl
  | stuck => rfl
theorem ev_kBorT (G : Ex AV) (m : M) : kBor G (.ok (.t (.bl true)) m) = .ok (.t (.bl true)) m := rfl
theorem ev_kBorF (G : Ex AV) (m : M) : kBor G (.ok (.t (.bl false)) m) = G m := rfl
def kT1 (f : D → Option D) : Out AV → Out AV
  | .ok (.t d) m => match f d with
    | some r => .ok (.t r) m
    | none => .stuck
  | .ok _ _ => .stuck
  | .exc x m => .exc x m
  | .stuck => .stuck
theorem ev_t1 (f : D → Option D) (F : Ex AV) (m : M) : t1 f F m = kT1 f (F m) := by
  unfold t1
  cases F m with
  | ok a m' => cases a <;> rfl
  | exc _ _ => rfl
  | stuck => rfl
theorem ev_kT1n (b : Bool) (m : M) : kT1 bnotD (.ok (.t (.bl b)) m) = .ok (.t (.bl (!b))) m := rfl
def kIf {α : Type} (F G : Ex α) : Out Bool → Out α
  | .ok true m => F m
  | .ok false m => G m
  | .exc x m => .exc x m
  | .stuck => .stuck
theorem ev_ifE {α : Type} (T : Ex Bool) (F G : Ex α) (m : M) : ifE T F G m = kIf F G (T m) := by
  unfold ifE kIf
  cases T m with
  | ok b m' => cases b <;> rfl
  | exc _ _ => rfl
  | stuck => rfl
theorem ev_kIfT {α : Type} (F G : Ex α) (m : M) : kIf F G (.ok true m) = F m := rfl
theorem ev_kIfF {α : Type} (F G : Ex α) (m : M) : kIf F G (.ok false m) = G m := rfl
/-! calls -/
def kCall (m : M) : FOut → Out RV
  | .ret v S' => match v.isS with
    | true => .stuck
    | false => .ok v { m with S := S' }
  | .exc x S' => .exc x { m with S := S' }
  | .stuck => .stuck
def kCallE (g : Fn) (ar : Nat) (das : List D) : Out (List AV) → Out RV
  | .ok as m => match (as ++ das.map AV.t).any AV.isS || !Nat.beq (as ++ das.map AV.t).length ar with
    | true => .stuck
    | false => kCall m (g m.base (as ++ das.map AV.t) m.S)
  | .exc x m => .exc x m
  | .stuck => .stuck
theorem ev_callE (g : Fn) (ar : Nat) (das : List D) (Fs : Ex (List AV)) (m : M) : callE g ar das Fs m = kCallE g ar das (Fs m) := by
  unfold callE
  cases Fs m with
  | ok as m' =>
    show callAt g ar (as ++ das.map AV.t) m' = kCallE g ar das (.ok as m')
    unfold callAt kCallE
    dsimp only
    cases (as ++ das.map AV.t).any AV.isS || !Nat.beq (as ++ das.map AV.t).length ar with
    | true => rfl
    | false =>
      dsimp only
      unfold kCall
      cases g m'.base (as ++ das.map AV.t) m'.S <;> rfl
  | exc _ _ => rfl
  | stuck => rfl
theorem ev_kCallE (g : Fn) (ar : Nat) (das : List D) (as : List AV) (m : M) (h : ((as ++ das.map AV.t).any AV.isS || !Nat.beq (as ++ das.map AV.t).length ar) = false) : kCallE g ar das (.ok as m) = kCall m (g m.base (as ++ das.map AV.t) m.S) := by
  unfold kCallE
  dsimp only
  rw [h]
theorem ev_call1 (g : Fn) (d : D) (m : M) : kCallE g 1 [] (.ok [.t d] m) = kCall m (g m.base [.t d] m.S) := rfl
theorem ev_call1b (g : Fn) (n : Nat) (m : M) : kCallE g 1 [] (.ok [.b n] m) = kCall m (g m.base [.b n] m.S) := rfl
theorem ev_call2 (g : Fn) (d e : D) (m : M) : kCallE g 2 [] (.ok [.t d, .t e] m) = kCall m (g m.base [.t d, .t e] m.S) := rfl
theorem ev_call2b (g : Fn) (n : Nat) (e : D) (m : M) : kCallE g 2 [] (.ok [.b n, .t e] m) = kCall m (g m.base [.b n, .t e] m.S) := rfl
theorem ev_call3 (g : Fn) (d e f : D) (m : M) : kCallE g 3 [] (.ok [.t d, .t e, .t f] m) = kCall m (g m.base [.t d, .t e, .t f] m.S) := rfl
theorem ev_call3b (g : Fn) (n : Nat) (e f : D) (m : M) : kCallE g 3 [] (.ok [.b n, .t e, .t f] m) = kCall m (g m.base [.b n, .t e, .t f] m.S) := rfl
theorem ev_kCallT (m : M) (d : D) (S : List Cell) : kCall m (.ret (.av (.t d)) S) = .ok (.av (.t d)) { m with S := S } := rfl
theorem ev_kCallO (m : M) (c : Cell) (S : List Cell) : kCall m (.ret (.own c) S) = .ok (.own c) { m with S := S } := rfl
theorem ev_kCallX (m : M) (x : D) (S : List Cell) : kCall m (.exc x S) = .exc x { m with S := S } := rfl
/-! slices -/
def kPart : Out AV → Out (Option Int)
  | .ok (.t (.int i)) m => .ok (some i) m
  | .ok _ _ => .stuck
  | .exc x m => .exc x m
  | .stuck => .stuck
theorem ev_noPart (m : M) : noPart m = .ok none m := rfl
theorem ev_intPart (F : Ex AV) (m : M) : intPart F m = kPart (F m) := by
  unfold intPart
  cases F m with
  | ok a m' =>
    cases a with
    | t d => cases d <;> rfl
    | _ => rfl
  | exc _ _ => rfl
  | stuck => rfl
theorem ev_kPart (i : Int) (m : M) : kPart (.ok (.t (.int i)) m) = .ok (some i) m := rfl
def kSl3 (f : Option Int → Option Int → AV → M → Out RV) (a : AV) (lo : Option Int) : Out (Option Int) → Out RV
  | .ok hi m => f lo hi a m
  | .exc x m => .exc x m
  | .stuck => .stuck
def kSl2 (f : Option Int → Option Int → AV → M → Out RV) (U : Ex (Option Int)) (a : AV) : Out (Option Int) → Out RV
  | .ok lo m => kSl3 f a lo (U m)
  | .exc x m => .exc x m
  | .stuck => .stuck
def kSl1 (f : Option Int → Option Int → AV → M → Out RV) (L U : Ex (Option Int)) : Out AV → Out RV
  | .ok a m => kSl2 f U a (L m)
  | .exc x m => .exc x m
  | .stuck => .stuck
theorem ev_eS (f : Option Int → Option Int → AV → M → Out RV) (F : Ex AV) (L U : Ex (Option Int)) (m : M) : eS f F L U m = kSl1 f L U (F m) := by
  unfold eS kSl1
  cases F m with
  | ok a m1 =>
    show (L m1).bind _ = kSl2 f U a (L m1)
    cases L m1 with
    | ok lo m2 => show (U m2).bind _ = kSl3 f a lo (U m2); cases U m2 <;> rfl
    | exc _ _ => rfl
    | stuck => rfl
  | exc _ _ => rfl
  | stuck => rfl
theorem ev_kSl1 (f : Option Int → Option Int → AV → M → Out RV) (L U : Ex (Option Int)) (a : AV) (m : M) : kSl1 f L U (.ok a m) = kSl2 f U a (L m) := rfl
theorem ev_kSl2 (f : Option Int → Option Int → AV → M → Out RV) (U : Ex (Option Int)) (a : AV) (lo : Option Int) (m : M) : kSl2 f U a (.ok lo m) = kSl3 f a lo (U m) := rfl
theorem ev_kSl3 (f : Option Int → Option Int → AV → M → Out RV) (a : AV) (lo hi : Option Int) (m : M) : kSl3 f a lo (.ok hi m) = f lo hi a m := rfl
/-! displays -/
def kLst : Out (List AV) → Out RV
  | .ok as m => match avsD as with
    | some ds => match Nat.blt ds.length lim with
      | true => .ok (.own (.lst ds)) m
      | false => .stuck
    | none => .stuck
  | .exc x m => .exc x m
  | .stuck => .stuck
theorem ev_lst (Fs : Ex (List AV)) (m : M) : lstE Fs m = kLst (Fs m) := by unfold lstE kLst; cases Fs m <;> rfl
def kTup : Out (List AV) → Out RV
  | .ok as m => match avsD as with
    | some ds => match Nat.blt ds.length lim with
      | true => .ok (.av (.t (.tup ds))) m
      | false => .stuck
    | none => .stuck
  | .exc x m => .exc x m
  | .stuck => .stuck
theorem ev_tup (Fs : Ex (List AV)) (m : M) : tupE Fs m = kTup (Fs m) := by unfold tupE kTup; cases Fs m <;> rfl
theorem ev_kLst (as : List AV) (ds : List D) (m : M) (h : avsD as = some ds) (hl : Nat.blt ds.length lim = true) : kLst (.ok as m) = .ok (.own (.lst ds)) m := by
  unfold kLst
  dsimp only
  rw [h]
  dsimp only
  rw [hl]
theorem ev_kTup (as : List AV) (ds : List D) (m : M) (h : avsD as = some ds) (hl : Nat.blt ds.length lim = true) : kTup (.ok as m) = .ok (.av (.t (.tup ds))) m := by
  unfold kTup
  dsimp only
  rw [h]
  dsimp only
  rw [hl]
theorem ev_tup0 (m : M) : kTup (.ok [] m) = .ok (.av (.t (.tup []))) m := rfl
theorem ev_tup1 (a : D) (m : M) : kTup (.ok [.t a] m) = .ok (.av (.t (.tup [a]))) m := rfl
theorem ev_tup2 (a b : D) (m : M) : kTup (.ok [.t a, .t b] m) = .ok (.av (.t (.tup [a, b]))) m := rfl
theorem ev_tup3 (a b c : D) (m : M) : kTup (.ok [.t a, .t b, .t c] m) = .ok (.av (.t (.tup [a, b, c]))) m := rfl
theorem ev_tup4 (a b c d : D) (m : M) : kTup (.ok [.t a, .t b, .t c, .t d] m) = .ok (.av (.t (.tup [a, b, c, d]))) m := rfl
theorem ev_lst0 (m : M) : kLst (.ok [] m) = .ok (.own (.lst [])) m := rfl
theorem ev_lst1 (a : D) (m : M) : kLst (.ok [.t a] m) = .ok (.own (.lst [a])) m := rfl
theorem ev_lst2 (a b : D) (m : M) : kLst (.ok [.t a, .t b] m) = .ok (.own (.lst [a, b])) m := rfl
theorem ev_lst3 (a b c : D) (m : M) : kLst (.ok [.t a, .t b, .t c] m) = .ok (.own (.lst [a, b, c])) m := rfl
theorem ev_lst4 (a b c d : D) (m : M) : kLst (.ok [.t a, .t b, .t c, .t d] m) = .ok (.own (.lst [a, b, c, d])) m := rfl
/-! methods -/
def kMt (p : AV → M → Bool) (f : AV → List AV → M → Out RV) (Fs : Ex (List AV)) : Out AV → Out RV
  | .ok a m => match p a m with
    | true => kEL (f a) (Fs m)
    | false => .stuck
  | .exc x m => .exc x m
  | .stuck => .stuck
theorem ev_eMt (p : AV → M → Bool) (f : AV → List AV → M → Out RV) (F : Ex AV) (Fs : Ex (List AV)) (m : M) : eMt p f F Fs m = kMt p f Fs (F m) := by
  unfold eMt kMt
  cases F m with
  | ok a m1 =>
    show (match p a m1 with
      | true => _
      | false => _) = _
    cases hp : p a m1 with
    | true => simp only [hp]; show (Fs m1).bind _ = kEL (f a) (Fs m1); cases Fs m1 <;> rfl
    | false => simp only [hp]
  | exc _ _ => rfl
  | stuck => rfl
theorem ev_kMt (p : AV → M → Bool) (f : AV → List AV → M → Out RV) (Fs : Ex (List AV)) (a : AV) (m : M) (h : p a m = true) : kMt p f Fs (.ok a m) = kEL (f a) (Fs m) := by unfold kMt; dsimp only; rw [h]
/-! ### statements -/
def kSeq (G : Stm) : SOut → SOut
  | .nx m => G m
  | o => o
theorem ev_seq (G G' : Stm) (m : M) : seqS G G' m = kSeq G' (G m) := by unfold seqS kSeq SOut.bind; cases G m <;> rfl
theorem ev_kSeqN (G : Stm) (m : M) : kSeq G (.nx m) = G m := rfl
theorem ev_kSeqR (G : Stm) (v : RV) (m : M) : kSeq G (.ret v m) = .ret v m := rfl
theorem ev_kSeqX (G : Stm) (x : D) (m : M) : kSeq G (.exc x m) = .exc x m := rfl
theorem ev_kSeqB (G : Stm) (m : M) : kSeq G (.brk m) = .brk m := rfl
theorem ev_kSeqC (G : Stm) (m : M) : kSeq G (.ct m) = .ct m := rfl
def kRet : Out RV → SOut
  | .ok (.av (.s _)) _ => .stuck
  | .ok (.av (.t d)) m => .ret (.av (.t d)) m
  | .ok (.av (.b n)) m => .ret (.av (.b n)) m
  | .ok (.own c) m => .ret (.own c) m
  | .exc x m => .exc x m
  | .stuck => .stuck
theorem ev_ret (F : Ex RV) (m : M) : retS F m = kRet (F m) := by
  unfold retS kRet exS
  cases F m with
  | ok v m' =>
    cases v with
    | av a => cases a <;> rfl
    | own c => rfl
  | exc _ _ => rfl
  | stuck => rfl
theorem ev_kRetT (d : D) (m : M) : kRet (.ok (.av (.t d)) m) = .ret (.av (.t d)) m := rfl
theorem ev_kRetO (c : Cell) (m : M) : kRet (.ok (.own c) m) = .ret (.own c) m := rfl
theorem ev_kRetX (x : D) (m : M) : kRet (.exc x m) = .exc x m := rfl
def kIfS (G G' : Stm) : Out Bool → SOut
  | .ok true m => G m
  | .ok false m => G' m
  | .exc x m => .exc x m
  | .stuck => .stuck
theorem ev_ifS (T : Ex Bool) (G G' : Stm) (m : M) : ifS T G G' m = kIfS G G' (T m) := by
  unfold ifS kIfS exS
  cases T m with
  | ok b m' => cases b <;> rfl
  | exc _ _ => rfl
  | stuck => rfl
theorem ev_kIfST (G G' : Stm) (m : M) : kIfS G G' (.ok true m) = G m := rfl
theorem ev_kIfSF (G G' : Stm) (m : M) : kIfS G G' (.ok false m) = G' m := rfl
theorem ev_nx (m : M) : nxS m = .nx m := rfl
def kSet (i : Nat) : Out AV → SOut
  | .ok (.s _) _ => .stuck
  | .ok (.t d) m => .nx (setSl m i (some (.av (.t d))))
  | .ok (.b n) m => .nx (setSl m i (some (.av (.b n))))
  | .exc x m => .exc x m
  | .stuck => .stuck
theorem ev_set (i : Nat) (F : Ex AV) (m : M) : setS i F m = kSet i (stE F m) := by
  unfold setS kSet exS
  cases stE F m with
  | ok a m' => cases a <;> rfl
  | exc _ _ => rfl
  | stuck => rfl
theorem ev_kSetT (i : Nat) (d : D) (s : List (Option SV)) (S : List Cell) (b : Nat) : kSet i (.ok (.t d) ⟨s, S, b⟩) = .nx ⟨s.set i (some (.av (.t d))), S, b⟩ := rfl
def kOwn (i : Nat) : Out RV → SOut
  | .ok (.own c) m => match Nat.blt i m.σ.length with
    | true => .nx (setSl m i (some (.own c)))
    | false => .stuck
  | .ok (.av (.s _)) _ => .stuck
  | .ok (.av (.t d)) m => .nx (setSl m i (some (.av (.t d))))
  | .ok (.av (.b n)) m => .nx (setSl m i (some (.av (.b n))))
  | .exc x m => .exc x m
  | .stuck => .stuck
theorem ev_own (i : Nat) (F : Ex RV) (m : M) : ownS i F m = kOwn i (F m) := by
  unfold ownS kOwn exS
  cases F m with
  | ok v m' =>
    cases v with
    | av a => cases a <;> rfl
    | own c => rfl
  | exc _ _ => rfl
  | stuck => rfl
theorem ev_kOwn (i : Nat) (c : Cell) (s : List (Option SV)) (S : List Cell) (b : Nat) (h : Nat.blt i s.length = true) : kOwn i (.ok (.own c) ⟨s, S, b⟩) = .nx ⟨s.set i (some (.own c)), S, b⟩ := by
  unfold kOwn
  dsimp only
  rw [h]
  rfl
def kBox (i : Nat) : Out RV → SOut
  | .ok (.own c) m => .nx (setSl (pushM m c) i (some (.av (.b m.S.length))))
  | .ok (.av _) _ => .stuck
  | .exc x m => .exc x m
  | .stuck => .stuck
theorem ev_box (i : Nat) (F : Ex RV) (m : M) : boxS i F m = kBox i (F m) := by
  unfold boxS kBox exS
  cases F m with
  | ok v m' => cases v <;> rfl
  | exc _ _ => rfl
  | stuck => rfl
theorem ev_kBox (i : Nat) (c : Cell) (s : List (Option SV)) (S : List Cell) (b : Nat) : kBox i (.ok (.own c) ⟨s, S, b⟩) = .nx ⟨s.set i (some (.av (.b S.length))), S ++ [c], b⟩ := rfl
def kDrop : Out RV → SOut
  | .ok _ m => .nx m
  | .exc x m => .exc x m
  | .stuck => .stuck
theorem ev_drop (F : Ex RV) (m : M) : dropS F m = kDrop (F m) := by unfold dropS kDrop exS; cases F m <;> rfl
theorem ev_kDrop (v : RV) (m : M) : kDrop (.ok v m) = .nx m := rfl
def kSetIx4 : Out Unit → SOut
  | .ok _ m => .nx m
  | .exc x m => .exc x m
  | .stuck => .stuck
def kSetIx3 (f : AV → AV → AV → M → Out Unit) (a o : AV) : Out AV → SOut
  | .ok i m => kSetIx4 (f o i a m)
  | .exc x m => .exc x m
  | .stuck => .stuck
def kSetIx2 (f : AV → AV → AV → M → Out Unit) (I : Ex AV) (a : AV) : Out AV → SOut
  | .ok o m => kSetIx3 f a o (I m)
  | .exc x m => .exc x m
  | .stuck => .stuck
def kSetIx1 (f : AV → AV → AV → M → Out Unit) (O I : Ex AV) : Out AV → SOut
  | .ok a m => kSetIx2 f I a (O m)
  | .exc x m => .exc x m
  | .stuck => .stuck
theorem ev_setIx (f : AV → AV → AV → M → Out Unit) (F O I : Ex AV) (m : M) : setIxS f F O I m = kSetIx1 f O I (stE F m) := by
  unfold setIxS kSetIx1 exS
  cases stE F m with
  | ok a m1 =>
    dsimp only
    show _ = kSetIx2 f I a (O m1)
    cases O m1 with
    | ok o m2 =>
      dsimp only
      show _ = kSetIx3 f a o (I m2)
      cases I m2 with
      | ok i m3 =>
        dsimp only
        show _ = kSetIx4 (f o i a m3)
        cases f o i a m3 <;> rfl
      | exc _ _ => rfl
      | stuck => rfl
    | exc _ _ => rfl
    | stuck => rfl
  | exc _ _ => rfl
  | stuck => rfl
theorem ev_kSetIx1 (f : AV → AV → AV → M → Out Unit) (O I : Ex AV) (a : AV) (m : M) : kSetIx1 f O I (.ok a m) = kSetIx2 f I a (O m) := rfl
theorem ev_kSetIx2 (f : AV → AV → AV → M → Out Unit) (I : Ex AV) (a o : AV) (m : M) : kSetIx2 f I a (.ok o m) = kSetIx3 f a o (I m) := rfl
theorem ev_kSetIx3 (f : AV → AV → AV → M → Out Unit) (a o i : AV) (m : M) : kSetIx3 f a o (.ok i m) = kSetIx4 (f o i a m) := rfl
theorem ev_kSetIx4 (u : Unit) (m : M) : kSetIx4 (.ok u m) = .nx m := rfl
def kPar (i j : Nat) : Out (List AV) → SOut
  | .ok [a, b] m => match a.isS || b.isS with
    | false => .nx (setSl (setSl m i (some (.av a))) j (some (.av b)))
    | true => .stuck
  | .ok _ _ => .stuck
  | .exc x m => .exc x m
  | .stuck => .stuck
theorem ev_par (i j : Nat) (Fs : Ex (List AV)) (m : M) : parS i j Fs m = kPar i j (Fs m) := by
  unfold parS kPar exS
  cases Fs m with
  | ok as m' =>
    cases as with
    | nil => rfl
    | cons a r =>
      cases r with
      | nil => rfl
      | cons b r => cases r <;> rfl
  | exc _ _ => rfl
  | stuck => rfl
theorem ev_kPar (i j : Nat) (d e : D) (s : List (Option SV)) (S : List Cell) (b : Nat) : kPar i j (.ok [.t d, .t e] ⟨s, S, b⟩) = .nx ⟨(s.set i (some (.av (.t d)))).set j (some (.av (.t e))), S, b⟩ := rfl
def kAsg (B : AV → M → Option M) : Out AV → SOut
  | .ok a m => match B a m with
    | some m' => .nx m'
    | none => .stuck
  | .exc x m => .exc x m
  | .stuck => .stuck
theorem ev_asg (B : AV → M → Option M) (F : Ex AV) (m : M) : asgS B F m = kAsg B (stE F m) := by unfold asgS kAsg exS; cases stE F m <;> rfl
theorem ev_kAsg (B : AV → M → Option M) (a : AV) (m : M) : kAsg B (.ok a m) = match B a m with
    | some m' => .nx m'
    | none => .stuck := rfl
def kFor (B : AV → M → Option M) (G : Stm) : Out (List D) → SOut
  | .ok ds m => forGo B G ds m
  | .exc x m => .exc x m
  | .stuck => .stuck
theorem ev_for (I : Ex (List D)) (B : AV → M → Option M) (G : Stm) (m : M) : forS I B G m = kFor B G (I m) := by unfold forS kFor exS; cases I m <;> rfl
theorem ev_kFor (B : AV → M → Option M) (G : Stm) (ds : List D) (m : M) : kFor B G (.ok ds m) = forGo B G ds m := rfl
def kIt : Out AV → Out (List D)
  | .ok (.t d) m => match itemsD d with
    | some ds => .ok ds m
    | none => .stuck
  | .ok _ _ => .stuck
  | .exc x m => .exc x m
  | .stuck => .stuck
theorem ev_it (F : Ex AV) (m : M) : itE F m = kIt (stE F m) := by
  unfold itE
  cases stE F m with
  | ok a m' => cases a <;> rfl
  | exc _ _ => rfl
  | stuck => rfl
theorem ev_kItT (xs : List D) (m : M) : kIt (.ok (.t (.tup xs)) m) = .ok xs m := rfl
theorem ev_kItL (xs : List D) (m : M) : kIt (.ok (.t (.lst xs)) m) = .ok xs m := rfl
theorem ev_kItS (x : List Nat) (m : M) : kIt (.ok (.t (.str x)) m) = .ok (x.map fun c => .str [c]) m := rfl
def kRng1 : Out (List AV) → Out (List D)
  | .ok [.t (.int j)] m => match okI j with
    | true => .ok (upTo 0 j.toNat) m
    | false => .stuck
  | .ok _ _ => .stuck
  | .exc x m => .exc x m
  | .stuck => .stuck
theorem ev_rng1 (Fs : Ex (List AV)) (m : M) : rng1 Fs m = kRng1 (Fs m) := by
  unfold rng1
  cases Fs m with
  | ok as m' =>
    show (match as with
      | [.t (.int j)] => _
      | _ => _) = kRng1 (.ok as m')
    unfold kRng1
    split
    · rfl
    · rename_i h
      split
      · rename_i j e
        cases e
        exact absurd rfl (h _)
      · rfl
      · rename_i e; cases e
      · rename_i e; cases e
  | exc _ _ => rfl
  | stuck => rfl
theorem ev_kRng1 (j : Int) (m : M) (h : okI j = true) : kRng1 (.ok [.t (.int j)] m) = .ok (upTo 0 j.toNat) m := by
  unfold kRng1
  dsimp only
  rw [h]
def kLc (B : AV → M → Option M) (vs : List Nat) (T : Ex Bool) (F : Ex AV) : Out (List D) → Out RV
  | .ok ds m => match Nat.blt ds.length lim with
    | true => (lcGo B vs T F ds [] (wipeM vs m)).bind fun acc m2 => .ok (.own (.lst acc)) m2
    | false => .stuck
  | .exc x m => .exc x m
  | .stuck => .stuck
theorem ev_lc (I : Ex (List D)) (B : AV → M → Option M) (vs : List Nat) (T : Ex Bool) (F : Ex AV) (m : M) : lcE I B vs T F m = kLc B vs T F (I m) := by unfold lcE kLc; cases I m <;> rfl
theorem ev_kLc (B : AV → M → Option M) (vs : List Nat) (T : Ex Bool) (F : Ex AV) (ds out : List D) (m m2 : M) (hl : Nat.blt ds.length lim = true) (h : lcGo B vs T F ds [] (wipeM vs m) = .ok out m2) : kLc B vs T F (.ok ds m) = .ok (.own (.lst out)) m2 := by
  unfold kLc
  dsimp only
  rw [hl]
  dsimp only
  rw [h]
  rfl
/-! ### the whole def -/
def ofS (S : List Cell) : SOut → FOut
  | .nx m => .ret (.av (.t .non)) (m.S.take S.length)
  | .ret v m => finT S v m.S
  | .exc x m => .exc x (m.S.take S.length)
  | _ => .stuck
theorem mkT_of (n : Nat) (G : Stm) (b : Nat) (as : List AV) (S : List Cell) : mkT n G b as S = ofS S (G ⟨slots n as, S, S.length⟩) := by
  unfold mkT ofS
  cases G ⟨slots n as, S, S.length⟩ <;> rfl
theorem ofS_tree (S S' : List Cell) (d : D) (s : List (Option SV)) (b : Nat) (h : S'.length = S.length) : ofS S (.ret (.av (.t d)) ⟨s, S', b⟩) = .ret (.av (.t d)) S' := by
  show FOut.ret _ (S'.take S.length) = _
  rw [← h, List.take_length]
theorem ofS_lst (S S' : List Cell) (xs : List D) (s : List (Option SV)) (b : Nat) (h : S'.length = S.length) : ofS S (.ret (.own (.lst xs)) ⟨s, S', b⟩) = .ret (.own (.lst xs)) S' := by
  show FOut.ret _ (S'.take S.length) = _
  rw [← h, List.take_length]
end BL
end part_BLw

section part_Lw_k22
set_option Elab.async false
set_option linter.all false
set_option maxRecDepth 100000
set_option maxHeartbeats 40000000
set_option autoImplicit false
namespace Lw
open PySem PySem.Spec PyProof.Rows L2 BL
def top (i : Nat) : Stmt := PySem.Challenge.pw_beadlane_k22_patterns_judged.main.body.getD i (.Pass ⟨0, 0, 0, 0⟩)
def tab_FORMS : List (List Nat × D) := [([101, 109, 112, 116, 121], .str []), ([98, 101, 97, 100], .str [98]), ([116, 104, 101, 110], .str [112, 112]), ([111, 114], .str [112, 112]), ([97, 103, 97, 105, 110], .str [112])]
def tb_FORMS (z : List Nat) : Option D := (tab_FORMS.find? fun p => p.1 == z).map (·.2)
structure Wd (C : Com) : Prop where
  f_is_bead : Has C "is_bead" (top 2)
  f_is_form : Has C "is_form" (top 7)
  f_measured : Has C "measured" (top 8)
  f_flaw : Has C "flaw" (top 9)
  f__law_open : Has C "_law_open" (top 11)
  f__law_pull : Has C "_law_pull" (top 12)
  f__law_like : Has C "_law_like" (top 13)
  f__law_any : Has C "_law_any" (top 14)
  f__law_letters : Has C "_law_letters" (top 15)
  f__law_pattern : Has C "_law_pattern" (top 16)
  f__law_parts : Has C "_law_parts" (top 17)
  f__law_deep : Has C "_law_deep" (top 18)
  f__law_is_built : Has C "_law_is_built" (top 19)
  f__law_flaw : Has C "_law_flaw" (top 20)
  f__law_put_in : Has C "_law_put_in" (top 21)
  f__law_odd_thing : Has C "_law_odd_thing" (top 22)
  f_law : Has C "law" (top 23)
  n_all : C.mg "all" = none
  n_bool : C.mg "bool" = none
  n_int : C.mg "int" = none
  n_isinstance : C.mg "isinstance" = none
  n_len : C.mg "len" = none
  n_list : C.mg "list" = none
  n_max : C.mg "max" = none
  n_range : C.mg "range" = none
  n_str : C.mg "str" = none
  n_sum : C.mg "sum" = none
  n_tuple : C.mg "tuple" = none
  c_LETTERS : Glv C "LETTERS" (.str [97, 98, 99, 100, 101, 102, 103, 104, 105, 106, 107, 108, 109, 110, 111, 112, 113, 114, 115, 116, 117, 118, 119, 120, 121, 122])
  c_MOST_DEEP : Glv C "MOST_DEEP" (.int 6)
  c_MOST_PARTS : Glv C "MOST_PARTS" (.int 16)
  t_FORMS : KT C "FORMS" tb_FORMS
theorem glo_all {C : Com} (w : Wd C) {sc : Scope} (h : glB sc "all" = true) : Glo C sc "all" (.builtin "all") := ⟨h, w.n_all, by first | kernel_rfl | decide +kernel, by decide, by kernel_rfl⟩
theorem glo_bool {C : Com} (w : Wd C) {sc : Scope} (h : glB sc "bool" = true) : Glo C sc "bool" (.type "bool") := ⟨h, w.n_bool, by first | kernel_rfl | decide +kernel, by decide, by kernel_rfl⟩
theorem glo_int {C : Com} (w : Wd C) {sc : Scope} (h : glB sc "int" = true) : Glo C sc "int" (.type "int") := ⟨h, w.n_int, by first | kernel_rfl | decide +kernel, by decide, by kernel_rfl⟩
theorem glo_isinstance {C : Com} (w : Wd C) {sc : Scope} (h : glB sc "isinstance" = true) : Glo C sc "isinstance" (.builtin "isinstance") := ⟨h, w.n_isinstance, by first | kernel_rfl | decide +kernel, by decide, by kernel_rfl⟩
theorem glo_len {C : Com} (w : Wd C) {sc : Scope} (h : glB sc "len" = true) : Glo C sc "len" (.builtin "len") := ⟨h, w.n_len, by first | kernel_rfl | decide +kernel, by decide, by kernel_rfl⟩
theorem glo_list {C : Com} (w : Wd C) {sc : Scope} (h : glB sc "list" = true) : Glo C sc "list" (.type "list") := ⟨h, w.n_list, by first | kernel_rfl | decide +kernel, by decide, by kernel_rfl⟩
theorem glo_max {C : Com} (w : Wd C) {sc : Scope} (h : glB sc "max" = true) : Glo C sc "max" (.builtin "max") := ⟨h, w.n_max, by first | kernel_rfl | decide +kernel, by decide, by kernel_rfl⟩
theorem glo_str {C : Com} (w : Wd C) {sc : Scope} (h : glB sc "str" = true) : Glo C sc "str" (.type "str") := ⟨h, w.n_str, by first | kernel_rfl | decide +kernel, by decide, by kernel_rfl⟩
theorem glo_sum {C : Com} (w : Wd C) {sc : Scope} (h : glB sc "sum" = true) : Glo C sc "sum" (.builtin "sum") := ⟨h, w.n_sum, by first | kernel_rfl | decide +kernel, by decide, by kernel_rfl⟩
theorem glo_tuple {C : Com} (w : Wd C) {sc : Scope} (h : glB sc "tuple" = true) : Glo C sc "tuple" (.type "tuple") := ⟨h, w.n_tuple, by first | kernel_rfl | decide +kernel, by decide, by kernel_rfl⟩
/-! is_bead -/
def N_is_bead : List Str := ["thing"]
def G_is_bead_s1 : Stm := (retS (seE (bandE (frzE (e1 (isiF .str) (getV 0))) (bandE (frzE (e2 (eqF false) (frzE (eL lenF (consE (getV 0) nilE))) (pureE (.int 1)))) (frzE (e2 (inF false) (getV 0) (pureE (.str [97, 98, 99, 100, 101, 102, 103, 104, 105, 106, 107, 108, 109, 110, 111, 112, 113, 114, 115, 116, 117, 118, 119, 120, 121, 122]))))))))
def G_is_bead : Stm := G_is_bead_s1
def S_is_bead : Fn := mkT 1 G_is_bead
theorem der_is_bead {C : Com} (w : Wd C) {k : Nat} (hk : 0 ≤ k) : SSs C N_is_bead (defScope (top 2)) k (defBody (top 2)) G_is_bead :=
(SSs.one
(SS.ret (SA.ev (SA.band (SE.frz (SE.isa (T := .str) (glo_isinstance w (by kernel_rfl)) (glo_str w (by kernel_rfl)) (SA.var (i := 0) (by kernel_rfl) (by kernel_rfl) (by kernel_rfl) (by kernel_rfl)) ⟨fun _ => rfl, fun _ => rfl⟩ (fun _ => rfl))) (SA.band (SE.frz (SE.eq (SE.frz (SE.len (glo_len w (by kernel_rfl)) ⟨fun _ => rfl, fun _ => rfl⟩ (SAs.cons (SA.var (i := 0) (by kernel_rfl) (by kernel_rfl) (by kernel_rfl) (by kernel_rfl)) SAs.nil (fun _ => rfl)))) SA.int (nomark _))) (SA.bool1 (SE.frz (SE.in (SA.var (i := 0) (by kernel_rfl) (by kernel_rfl) (by kernel_rfl) (by kernel_rfl)) (SA.gv w.c_LETTERS (by kernel_rfl) (by kernel_rfl)) (by first | rfl | kernel_rfl)))))))))
theorem ok_is_bead {C : Com} (w : Wd C) : Ok C "is_bead" ["thing"] 1 S_is_bead := w.f_is_bead.t (N := N_is_bead) (ps := ["thing"]) (k := 0) (by kernel_rfl) (fun _ _ _ _ _ _ us hl => match us, hl with | [_], _ => rfl) (der_is_bead w (Nat.le_refl _))

/-! is_form -/
def N_is_form : List Str := ["thing"]
def G_is_form_s1 : Stm := (ifS (orB (notB (boolR (e1 (isiF .tup) (getV 0)))) (orB (boolR (e2 (eqF false) (frzE (eL lenF (consE (getV 0) nilE))) (pureE (.int 0)))) (notB (boolR (e1 (isiF .str) (frzE (e2 ixF (getV 0) (pureE (.int 0))))))))) (retS (seE (pureE (.bl false)))) nxS)
def G_is_form_s2 : Stm := (retS (seE (bandE (frzE (e1 (BL.inK false tb_FORMS) (frzE (e2 ixF (getV 0) (pureE (.int 0)))))) (frzE (e2 (eqF false) (frzE (eL lenF (consE (getV 0) nilE))) (frzE (e2 addF (pureE (.int 1)) (frzE (eL lenF (consE (frzE (e1 (BL.ixK tb_FORMS) (frzE (e2 ixF (getV 0) (pureE (.int 0)))))) nilE))))))))))
def G_is_form : Stm := (seqS G_is_form_s1 G_is_form_s2)
def S_is_form : Fn := mkT 1 G_is_form
theorem der_is_form {C : Com} (w : Wd C) {k : Nat} (hk : 0 ≤ k) : SSs C N_is_form (defScope (top 7)) k (defBody (top 7)) G_is_form :=
(SSs.cons
(SS.ite (SW.sb (SW.or (SB.not (SB.ofE (SE.isa (T := .tup) (glo_isinstance w (by kernel_rfl)) (glo_tuple w (by kernel_rfl)) (SA.var (i := 0) (by kernel_rfl) (by kernel_rfl) (by kernel_rfl) (by kernel_rfl)) ⟨fun _ => rfl, fun _ => rfl⟩ (fun _ => rfl)) (fun _ _ => rfl))) (SW.or (SB.eq (SE.frz (SE.len (glo_len w (by kernel_rfl)) ⟨fun _ => rfl, fun _ => rfl⟩ (SAs.cons (SA.var (i := 0) (by kernel_rfl) (by kernel_rfl) (by kernel_rfl) (by kernel_rfl)) SAs.nil (fun _ => rfl)))) SA.int (nomark _)) (SW.or1 (SB.not (SB.ofE (SE.isa (T := .str) (glo_isinstance w (by kernel_rfl)) (glo_str w (by kernel_rfl)) (SE.frz (SE.index (SA.var (i := 0) (by kernel_rfl) (by kernel_rfl) (by kernel_rfl) (by kernel_rfl)) SA.int (fun _ _ => rfl))) ⟨fun _ => rfl, fun _ => rfl⟩ (fun _ => rfl)) (fun _ _ => rfl))))))) (SSs.one
(SS.ret (SA.ev SA.bl))) SSs.nil)
(SSs.one
(SS.ret (SA.ev (SA.band (SE.frz (SE.inT w.t_FORMS (SE.frz (SE.index (SA.var (i := 0) (by kernel_rfl) (by kernel_rfl) (by kernel_rfl) (by kernel_rfl)) SA.int (fun _ _ => rfl))) (by kernel_rfl) (by kernel_rfl) (by kernel_rfl))) (SA.bool1 (SE.frz (SE.eq (SE.frz (SE.len (glo_len w (by kernel_rfl)) ⟨fun _ => rfl, fun _ => rfl⟩ (SAs.cons (SA.var (i := 0) (by kernel_rfl) (by kernel_rfl) (by kernel_rfl) (by kernel_rfl)) SAs.nil (fun _ => rfl)))) (SE.frz (SE.add SA.int (SE.frz (SE.len (glo_len w (by kernel_rfl)) ⟨fun _ => rfl, fun _ => rfl⟩ (SAs.cons (SE.frz (SE.ixT w.t_FORMS (SE.frz (SE.index (SA.var (i := 0) (by kernel_rfl) (by kernel_rfl) (by kernel_rfl) (by kernel_rfl)) SA.int (fun _ _ => rfl))) (by kernel_rfl) (by kernel_rfl) (fun _ _ => rfl))) SAs.nil (fun _ => rfl)))))) (nomark _)))))))))
theorem ok_is_form {C : Com} (w : Wd C) : Ok C "is_form" ["thing"] 1 S_is_form := w.f_is_form.t (N := N_is_form) (ps := ["thing"]) (k := 0) (by kernel_rfl) (fun _ _ _ _ _ _ us hl => match us, hl with | [_], _ => rfl) (der_is_form w (Nat.le_refl _))

/-! measured -/
def N_measured : List Str := ["thing", "deep", "many", "low", "part", "more", "far"]
def G_measured_s1 (self : Fn) : Stm := (ifS (notB (boolR (callE S_is_form 1 [] (consE (getV 0) nilE)))) (retS (tupE (consE (pureE (.int 0)) (consE (getV 1) nilE)))) nxS)
def G_measured_s2 (self : Fn) : Stm := (ifS (boolR (e2 (eqF false) (frzE (e2 ixF (getV 0) (pureE (.int 0)))) (pureE (.str [98, 101, 97, 100])))) (retS (tupE (consE (frzE (eL intF (consE (frzE (callE S_is_bead 1 [] (consE (frzE (e2 ixF (getV 0) (pureE (.int 1)))) nilE))) nilE))) (consE (getV 1) nilE)))) nxS)
def G_measured_s3 (self : Fn) : Stm := (parS 2 3 (consE (pureE (.int 1)) (consE (getV 1) nilE)))
def G_measured_l1_s1 (self : Fn) : Stm := (asgS (tupB 2 (consB (nameB 5) (consB (nameB 6) nilB))) (frzE (callE self 2 [] (consE (getV 4) (consE (frzE (e2 addF (getV 1) (pureE (.int 1)))) nilE)))))
def G_measured_l1_s2 (self : Fn) : Stm := (ifS (boolR (e2 (eqF false) (getV 5) (pureE (.int 0)))) (retS (tupE (consE (pureE (.int 0)) (consE (getV 1) nilE)))) nxS)
def G_measured_l1_s3 (self : Fn) : Stm := (parS 2 3 (consE (frzE (e2 addF (getV 2) (getV 5))) (consE (frzE (eL (int2F fun i j => if j > i then j else i) (consE (getV 3) (consE (getV 6) nilE)))) nilE)))
def G_measured_l1 (self : Fn) : Stm :=
(seqS (G_measured_l1_s1 self) (seqS (G_measured_l1_s2 self) (G_measured_l1_s3 self)))
def G_measured_s4 (self : Fn) : Stm := (forS (itE (frzE (eS slF (getV 0) (intPart (pureE (.int 1))) noPart))) (nameB 4) (G_measured_l1 self))
def G_measured_s5 (self : Fn) : Stm := (retS (tupE (consE (getV 2) (consE (getV 3) nilE))))
def G_measured (self : Fn) : Stm := (seqS (G_measured_s1 self) (seqS (G_measured_s2 self) (seqS (G_measured_s3 self) (seqS (G_measured_s4 self) (G_measured_s5 self)))))
def S_measured : Nat → Fn
  | 0 => mkT 7 noS
  | i + 1 => mkT 7 (G_measured (S_measured i))
theorem der_measured {C : Com} (w : Wd C) {k j : Nat} (hk : 1 ≤ k) {self : Fn} (hs : Ok C "measured" ["thing", "deep"] j self) (hj : j ≤ k) : SSs C N_measured (defScope (top 8)) k (defBody (top 8)) (G_measured self) :=
(SSs.cons
(SS.ite (SB.not (SB.ofE (SE.fn (ok_is_form w) (Nat.le_trans (by decide) hk) (SAs.cons (SA.var (i := 0) (by kernel_rfl) (by kernel_rfl) (by kernel_rfl) (by kernel_rfl)) SAs.nil (fun _ => rfl)) (by kernel_rfl) (by kernel_rfl) (fun _ => rfl) (fun _ => rfl)) (fun _ _ => rfl))) (SSs.one
(SS.ret (SE.tup (SAs.cons SA.int (SAs.cons (SA.var (i := 1) (by kernel_rfl) (by kernel_rfl) (by kernel_rfl) (by kernel_rfl)) SAs.nil (fun _ => rfl)) (fun _ => rfl))))) SSs.nil)
(SSs.cons
(SS.ite (SB.eq (SE.frz (SE.index (SA.var (i := 0) (by kernel_rfl) (by kernel_rfl) (by kernel_rfl) (by kernel_rfl)) SA.int (fun _ _ => rfl))) (SA.str (l := [98, 101, 97, 100]) (by kernel_rfl)) (nomark _)) (SSs.one
(SS.ret (SE.tup (SAs.cons (SE.frz (SE.int (glo_int w (by kernel_rfl)) ⟨fun _ => rfl, fun _ => rfl⟩ (SAs.cons (SE.frz (SE.fn (ok_is_bead w) (Nat.le_trans (by decide) hk) (SAs.cons (SE.frz (SE.index (SA.var (i := 0) (by kernel_rfl) (by kernel_rfl) (by kernel_rfl) (by kernel_rfl)) SA.int (fun _ _ => rfl))) SAs.nil (fun _ => rfl)) (by kernel_rfl) (by kernel_rfl) (fun _ => rfl) (fun _ => rfl))) SAs.nil (fun _ => rfl)))) (SAs.cons (SA.var (i := 1) (by kernel_rfl) (by kernel_rfl) (by kernel_rfl) (by kernel_rfl)) SAs.nil (fun _ => rfl)) (fun _ => rfl))))) SSs.nil)
(SSs.cons
(SS.par (i := 2) (j := 3) (by kernel_rfl) (by kernel_rfl) (by decide) (by kernel_rfl) (by kernel_rfl) (SAs.cons SA.int (SAs.cons (SA.var (i := 1) (by kernel_rfl) (by kernel_rfl) (by kernel_rfl) (by kernel_rfl)) SAs.nil (fun _ => rfl)) (fun _ => rfl)) (fun env h => by obtain ⟨⟩ := env; cases h; kernel_rfl) (fun _ => rfl))
(SSs.cons
(SS.for (SI.any (SE.frz (SE.slice (SA.var (i := 0) (by kernel_rfl) (by kernel_rfl) (by kernel_rfl) (by kernel_rfl)) (SP.some SA.int) SP.none))) (SG.name (i := 4) (by kernel_rfl) (by kernel_rfl)) (SSs.cons
(SS.asg (SE.frz (SE.fn hs hj (SAs.cons (SA.var (i := 4) (by kernel_rfl) (by kernel_rfl) (by kernel_rfl) (by kernel_rfl)) (SAs.cons (SE.frz (SE.add (SA.var (i := 1) (by kernel_rfl) (by kernel_rfl) (by kernel_rfl) (by kernel_rfl)) SA.int)) SAs.nil (fun _ => rfl)) (fun _ => rfl)) (by kernel_rfl) (by kernel_rfl) (fun _ => rfl) (fun _ => rfl))) (SG.tup (SGs.cons (SG.name (i := 5) (by kernel_rfl) (by kernel_rfl)) (SGs.cons (SG.name (i := 6) (by kernel_rfl) (by kernel_rfl)) (SGs.nil (vs := [])) (fun _ => rfl)) (fun _ => rfl)) (fun _ => rfl) (fun _ => rfl)) (fun _ => rfl) (fun _ => rfl) (fun _ => rfl))
(SSs.cons
(SS.ite (SB.eq (SA.var (i := 5) (by kernel_rfl) (by kernel_rfl) (by kernel_rfl) (by kernel_rfl)) SA.int (nomark _)) (SSs.one
(SS.ret (SE.tup (SAs.cons SA.int (SAs.cons (SA.var (i := 1) (by kernel_rfl) (by kernel_rfl) (by kernel_rfl) (by kernel_rfl)) SAs.nil (fun _ => rfl)) (fun _ => rfl))))) SSs.nil)
(SSs.one
(SS.par (i := 2) (j := 3) (by kernel_rfl) (by kernel_rfl) (by decide) (by kernel_rfl) (by kernel_rfl) (SAs.cons (SE.frz (SE.add (SA.var (i := 2) (by kernel_rfl) (by kernel_rfl) (by kernel_rfl) (by kernel_rfl)) (SA.var (i := 5) (by kernel_rfl) (by kernel_rfl) (by kernel_rfl) (by kernel_rfl)))) (SAs.cons (SE.frz (SE.max2 (glo_max w (by kernel_rfl)) ⟨fun _ => rfl, fun _ => rfl⟩ (SAs.cons (SA.var (i := 3) (by kernel_rfl) (by kernel_rfl) (by kernel_rfl) (by kernel_rfl)) (SAs.cons (SA.var (i := 6) (by kernel_rfl) (by kernel_rfl) (by kernel_rfl) (by kernel_rfl)) SAs.nil (fun _ => rfl)) (fun _ => rfl)))) SAs.nil (fun _ => rfl)) (fun _ => rfl)) (fun env h => by obtain ⟨⟩ := env; cases h; kernel_rfl) (fun _ => rfl))))) (fun _ _ => rfl))
(SSs.one
(SS.ret (SE.tup (SAs.cons (SA.var (i := 2) (by kernel_rfl) (by kernel_rfl) (by kernel_rfl) (by kernel_rfl)) (SAs.cons (SA.var (i := 3) (by kernel_rfl) (by kernel_rfl) (by kernel_rfl) (by kernel_rfl)) SAs.nil (fun _ => rfl)) (fun _ => rfl)))))))))
theorem ok_measured {C : Com} (w : Wd C) : ∀ n : Nat, Ok C "measured" ["thing", "deep"] (1 + 1 + n) (S_measured n)
  | 0 => w.f_measured.t (N := N_measured) (ps := ["thing", "deep"]) (k := 1) (by kernel_rfl) (fun _ _ _ _ _ _ us hl => match us, hl with | [_, _], _ => rfl) SSs.no
  | n + 1 => w.f_measured.t (N := N_measured) (ps := ["thing", "deep"]) (k := 1 + 1 + n) (by kernel_rfl) (fun _ _ _ _ _ _ us hl => match us, hl with | [_, _], _ => rfl) (der_measured w (by omega) (ok_measured w n) (Nat.le_refl _))

/-! flaw -/
def N_flaw : List Str := ["thing", "many", "deep"]
def G_flaw_s1 : Stm := (asgS (tupB 2 (consB (nameB 1) (consB (nameB 2) nilB))) (frzE (callE (S_measured 40) 2 [] (consE (getV 0) (consE (pureE (.int 1)) nilE)))))
def G_flaw_s2 : Stm := (ifS (boolR (e2 (eqF false) (getV 1) (pureE (.int 0)))) (retS (seE (pureE (.str [102, 111, 114, 109])))) nxS)
def G_flaw_s3 : Stm := (ifS (boolR (e2 (d2 gtD) (getV 1) (pureE (.int 16)))) (retS (seE (pureE (.str [109, 97, 110, 121])))) nxS)
def G_flaw_s4 : Stm := (retS (seE (ifE (boolR (e2 (d2 gtD) (getV 2) (pureE (.int 6)))) (pureE (.str [100, 101, 101, 112])) (pureE .non))))
def G_flaw : Stm := (seqS G_flaw_s1 (seqS G_flaw_s2 (seqS G_flaw_s3 G_flaw_s4)))
def S_flaw : Fn := mkT 3 G_flaw
theorem der_flaw {C : Com} (w : Wd C) {k : Nat} (hk : 42 ≤ k) : SSs C N_flaw (defScope (top 9)) k (defBody (top 9)) G_flaw :=
(SSs.cons
(SS.asg (SE.frz (SE.fn (ok_measured w 40) (Nat.le_trans (by decide) hk) (SAs.cons (SA.var (i := 0) (by kernel_rfl) (by kernel_rfl) (by kernel_rfl) (by kernel_rfl)) (SAs.cons SA.int SAs.nil (fun _ => rfl)) (fun _ => rfl)) (by kernel_rfl) (by kernel_rfl) (fun _ => rfl) (fun _ => rfl))) (SG.tup (SGs.cons (SG.name (i := 1) (by kernel_rfl) (by kernel_rfl)) (SGs.cons (SG.name (i := 2) (by kernel_rfl) (by kernel_rfl)) (SGs.nil (vs := [])) (fun _ => rfl)) (fun _ => rfl)) (fun _ => rfl) (fun _ => rfl)) (fun _ => rfl) (fun _ => rfl) (fun _ => rfl))
(SSs.cons
(SS.ite (SB.eq (SA.var (i := 1) (by kernel_rfl) (by kernel_rfl) (by kernel_rfl) (by kernel_rfl)) SA.int (nomark _)) (SSs.one
(SS.ret (SA.ev (SA.str (l := [102, 111, 114, 109]) (by kernel_rfl))))) SSs.nil)
(SSs.cons
(SS.ite (SB.gt (SA.var (i := 1) (by kernel_rfl) (by kernel_rfl) (by kernel_rfl) (by kernel_rfl)) (SA.gv w.c_MOST_PARTS (by kernel_rfl) (by kernel_rfl)) (nomark _)) (SSs.one
(SS.ret (SA.ev (SA.str (l := [109, 97, 110, 121]) (by kernel_rfl))))) SSs.nil)
(SSs.one
(SS.ret (SA.ev (SA.ife (SB.gt (SA.var (i := 2) (by kernel_rfl) (by kernel_rfl) (by kernel_rfl) (by kernel_rfl)) (SA.gv w.c_MOST_DEEP (by kernel_rfl) (by kernel_rfl)) (nomark _)) (SA.str (l := [100, 101, 101, 112]) (by kernel_rfl)) SA.non)))))))
theorem ok_flaw {C : Com} (w : Wd C) : Ok C "flaw" ["thing"] 43 S_flaw := w.f_flaw.t (N := N_flaw) (ps := ["thing"]) (k := 42) (by kernel_rfl) (fun _ _ _ _ _ _ us hl => match us, hl with | [_], _ => rfl) (der_flaw w (Nat.le_refl _))

/-! _law_open -/
def N__law_open : List Str := ["_law_script", "_law_seed", "_law_cell"]
def G_law_open_s1 : Stm := (setS 1 (pureE (.int 9111)))
def G_law_open_l1 : Stm :=
(setS 1 (frzE (e2 (d2 modD) (frzE (e2 addF (frzE (e2 addF (frzE (e2 mulF (getV 1) (pureE (.int 48271)))) (frzE (e2 (d2 modD) (getV 2) (pureE (.int 2147483629)))))) (pureE (.int 7)))) (pureE (.int 2147483647)))))
def G_law_open_s2 : Stm := (forS (itE (frzE (eS slF (getV 0) noPart (intPart (pureE (.int 63)))))) (nameB 2) G_law_open_l1)
def G_law_open_s3 : Stm := (retS (lstE (consE (frzE (eL listAF (consE (frzE (eS slF (getV 0) noPart (intPart (pureE (.int 63))))) nilE))) (consE (pureE (.int 0)) (consE (pureE (.int 0)) (consE (getV 1) nilE))))))
def G_law_open : Stm := (seqS G_law_open_s1 (seqS G_law_open_s2 G_law_open_s3))
def S_law_open : Fn := mkT 3 G_law_open
theorem der__law_open {C : Com} (w : Wd C) {k : Nat} (hk : 0 ≤ k) : SSs C N__law_open (defScope (top 11)) k (defBody (top 11)) G_law_open :=
(SSs.cons
(SS.set (i := 1) (by kernel_rfl) (by kernel_rfl) SA.int (fun _ => rfl))
(SSs.cons
(SS.for (SI.any (SE.frz (SE.slice (SA.var (i := 0) (by kernel_rfl) (by kernel_rfl) (by kernel_rfl) (by kernel_rfl)) SP.none (SP.some SA.int)))) (SG.name (i := 2) (by kernel_rfl) (by kernel_rfl)) (SSs.one
(SS.set (i := 1) (by kernel_rfl) (by kernel_rfl) (SE.frz (SE.mod (SE.frz (SE.add (SE.frz (SE.add (SE.frz (SE.mul (SA.var (i := 1) (by kernel_rfl) (by kernel_rfl) (by kernel_rfl) (by kernel_rfl)) SA.int)) (SE.frz (SE.mod (SA.var (i := 2) (by kernel_rfl) (by kernel_rfl) (by kernel_rfl) (by kernel_rfl)) SA.int)))) SA.int)) SA.int)) (fun _ => rfl))) (fun _ _ => rfl))
(SSs.one
(SS.ret (SE.lst (SAs.cons (SE.frz (SE.list (glo_list w (by kernel_rfl)) ⟨fun _ => rfl, fun _ => rfl⟩ (SAs.cons (SE.frz (SE.slice (SA.var (i := 0) (by kernel_rfl) (by kernel_rfl) (by kernel_rfl) (by kernel_rfl)) SP.none (SP.some SA.int))) SAs.nil (fun _ => rfl)))) (SAs.cons SA.int (SAs.cons SA.int (SAs.cons (SA.var (i := 1) (by kernel_rfl) (by kernel_rfl) (by kernel_rfl) (by kernel_rfl)) SAs.nil (fun _ => rfl)) (fun _ => rfl)) (fun _ => rfl)) (fun _ => rfl)))))))
theorem ok__law_open {C : Com} (w : Wd C) : Ok C "_law_open" ["_law_script"] 1 S_law_open := w.f__law_open.t (N := N__law_open) (ps := ["_law_script"]) (k := 0) (by kernel_rfl) (fun _ _ _ _ _ _ us hl => match us, hl with | [_], _ => rfl) (der__law_open w (Nat.le_refl _))

/-! _law_pull -/
def N__law_pull : List Str := ["_law_draw", "_law_total_of", "_law_cell", "_law_got", "_law_seed"]
def G_law_pull_s1 : Stm := (ifS (andB (boolR (e2 (d2 ltD) (frzE (e2 ixF (getV 0) (pureE (.int 2)))) (getV 1))) (boolR (e2 (d2 ltD) (frzE (e2 ixF (getV 0) (pureE (.int 1)))) (frzE (eL lenF (consE (frzE (e2 ixF (getV 0) (pureE (.int 0)))) nilE)))))) (seqS (setS 2 (frzE (e2 ixF (frzE (e2 ixF (getV 0) (pureE (.int 0)))) (frzE (e2 ixF (getV 0) (pureE (.int 1)))))))
(seqS (setIxS setLF (frzE (e2 addF (frzE (e2 ixF (getV 0) (pureE (.int 1)))) (pureE (.int 1)))) (getV 0) (pureE (.int 1)))
(seqS (setIxS setLF (pureE (.int 0)) (getV 0) (pureE (.int 2)))
(ifS (boolR (e2 (d2 geD) (getV 2) (frzE (e2 (d2 powD) (pureE (.int 10)) (pureE (.int 18)))))) (setIxS setLF (getV 2) (getV 0) (pureE (.int 2))) (setIxS setLF (frzE (e2 (d2 modD) (frzE (e2 addF (frzE (e2 addF (frzE (e2 mulF (frzE (e2 ixF (getV 0) (pureE (.int 3)))) (pureE (.int 40692)))) (frzE (e2 mulF (frzE (e2 (d2 modD) (getV 2) (pureE (.int 2147483629)))) (pureE (.int 69621)))))) (pureE (.int 104729)))) (pureE (.int 2147483647)))) (getV 0) (pureE (.int 3))))))) nxS)
def G_law_pull_s2 : Stm := (ifS (boolR (e2 (d2 geD) (frzE (e2 ixF (getV 0) (pureE (.int 2)))) (getV 1))) (seqS (setS 3 (frzE (e2 (d2 modD) (frzE (e2 ixF (getV 0) (pureE (.int 2)))) (getV 1))))
(seqS (setIxS setLF (frzE (e2 (d2 divD) (frzE (e2 ixF (getV 0) (pureE (.int 2)))) (getV 1))) (getV 0) (pureE (.int 2)))
(retS (seE (getV 3))))) nxS)
def G_law_pull_s3 : Stm := (setS 4 (frzE (e2 ixF (getV 0) (pureE (.int 3)))))
def G_law_pull_s4 : Stm := (setIxS setLF (frzE (e2 (d2 modD) (frzE (e2 addF (frzE (e2 addF (frzE (e2 mulF (frzE (e2 (d2 modD) (frzE (e2 mulF (getV 4) (getV 4))) (pureE (.int 2147483587)))) (pureE (.int 5)))) (frzE (e2 mulF (getV 4) (pureE (.int 16807)))))) (pureE (.int 1013904229)))) (pureE (.int 2147483647)))) (getV 0) (pureE (.int 3)))
def G_law_pull_s5 : Stm := (retS (e2 (d2 modD) (frzE (e2 addF (frzE (e2 (d2 divD) (frzE (e2 ixF (getV 0) (pureE (.int 3)))) (pureE (.int 53)))) (frzE (e2 mulF (frzE (e2 (d2 modD) (frzE (e2 ixF (getV 0) (pureE (.int 3)))) (pureE (.int 8191)))) (pureE (.int 31)))))) (getV 1)))
def G_law_pull : Stm := (seqS G_law_pull_s1 (seqS G_law_pull_s2 (seqS G_law_pull_s3 (seqS G_law_pull_s4 G_law_pull_s5))))
def S_law_pull : Fn := mkT 5 G_law_pull
theorem der__law_pull {C : Com} (w : Wd C) {k : Nat} (hk : 0 ≤ k) : SSs C N__law_pull (defScope (top 12)) k (defBody (top 12)) G_law_pull :=
(SSs.cons
(SS.ite (SW.sb (SW.and (SB.lt (SE.frz (SE.index (SA.var (i := 0) (by kernel_rfl) (by kernel_rfl) (by kernel_rfl) (by kernel_rfl)) SA.int (fun _ _ => rfl))) (SA.var (i := 1) (by kernel_rfl) (by kernel_rfl) (by kernel_rfl) (by kernel_rfl)) (nomark _)) (SW.and1 (SB.lt (SE.frz (SE.index (SA.var (i := 0) (by kernel_rfl) (by kernel_rfl) (by kernel_rfl) (by kernel_rfl)) SA.int (fun _ _ => rfl))) (SE.frz (SE.len (glo_len w (by kernel_rfl)) ⟨fun _ => rfl, fun _ => rfl⟩ (SAs.cons (SE.frz (SE.index (SA.var (i := 0) (by kernel_rfl) (by kernel_rfl) (by kernel_rfl) (by kernel_rfl)) SA.int (fun _ _ => rfl))) SAs.nil (fun _ => rfl)))) (nomark _))))) (SSs.cons
(SS.set (i := 2) (by kernel_rfl) (by kernel_rfl) (SE.frz (SE.index (SE.frz (SE.index (SA.var (i := 0) (by kernel_rfl) (by kernel_rfl) (by kernel_rfl) (by kernel_rfl)) SA.int (fun _ _ => rfl))) (SE.frz (SE.index (SA.var (i := 0) (by kernel_rfl) (by kernel_rfl) (by kernel_rfl) (by kernel_rfl)) SA.int (fun _ _ => rfl))) (fun _ _ => rfl))) (fun _ => rfl))
(SSs.cons
(SS.setIx (fun X B => set_list) imp_setL (SE.frz (SE.add (SE.frz (SE.index (SA.var (i := 0) (by kernel_rfl) (by kernel_rfl) (by kernel_rfl) (by kernel_rfl)) SA.int (fun _ _ => rfl))) SA.int)) (SA.var (i := 0) (by kernel_rfl) (by kernel_rfl) (by kernel_rfl) (by kernel_rfl)) SA.int (fun _ _ => rfl) (fun _ => rfl) (fun _ => rfl) (fun _ => rfl))
(SSs.cons
(SS.setIx (fun X B => set_list) imp_setL SA.int (SA.var (i := 0) (by kernel_rfl) (by kernel_rfl) (by kernel_rfl) (by kernel_rfl)) SA.int (fun _ _ => rfl) (fun _ => rfl) (fun _ => rfl) (fun _ => rfl))
(SSs.one
(SS.ite (SB.ge (SA.var (i := 2) (by kernel_rfl) (by kernel_rfl) (by kernel_rfl) (by kernel_rfl)) (SE.frz (SE.pow SA.int SA.int)) (nomark _)) (SSs.one
(SS.setIx (fun X B => set_list) imp_setL (SA.var (i := 2) (by kernel_rfl) (by kernel_rfl) (by kernel_rfl) (by kernel_rfl)) (SA.var (i := 0) (by kernel_rfl) (by kernel_rfl) (by kernel_rfl) (by kernel_rfl)) SA.int (fun _ _ => rfl) (fun _ => rfl) (fun _ => rfl) (fun _ => rfl))) (SSs.one
(SS.setIx (fun X B => set_list) imp_setL (SE.frz (SE.mod (SE.frz (SE.add (SE.frz (SE.add (SE.frz (SE.mul (SE.frz (SE.index (SA.var (i := 0) (by kernel_rfl) (by kernel_rfl) (by kernel_rfl) (by kernel_rfl)) SA.int (fun _ _ => rfl))) SA.int)) (SE.frz (SE.mul (SE.frz (SE.mod (SA.var (i := 2) (by kernel_rfl) (by kernel_rfl) (by kernel_rfl) (by kernel_rfl)) SA.int)) SA.int)))) SA.int)) SA.int)) (SA.var (i := 0) (by kernel_rfl) (by kernel_rfl) (by kernel_rfl) (by kernel_rfl)) SA.int (fun _ _ => rfl) (fun _ => rfl) (fun _ => rfl) (fun _ => rfl)))))))) SSs.nil)
(SSs.cons
(SS.ite (SB.ge (SE.frz (SE.index (SA.var (i := 0) (by kernel_rfl) (by kernel_rfl) (by kernel_rfl) (by kernel_rfl)) SA.int (fun _ _ => rfl))) (SA.var (i := 1) (by kernel_rfl) (by kernel_rfl) (by kernel_rfl) (by kernel_rfl)) (nomark _)) (SSs.cons
(SS.set (i := 3) (by kernel_rfl) (by kernel_rfl) (SE.frz (SE.mod (SE.frz (SE.index (SA.var (i := 0) (by kernel_rfl) (by kernel_rfl) (by kernel_rfl) (by kernel_rfl)) SA.int (fun _ _ => rfl))) (SA.var (i := 1) (by kernel_rfl) (by kernel_rfl) (by kernel_rfl) (by kernel_rfl)))) (fun _ => rfl))
(SSs.cons
(SS.setIx (fun X B => set_list) imp_setL (SE.frz (SE.div (SE.frz (SE.index (SA.var (i := 0) (by kernel_rfl) (by kernel_rfl) (by kernel_rfl) (by kernel_rfl)) SA.int (fun _ _ => rfl))) (SA.var (i := 1) (by kernel_rfl) (by kernel_rfl) (by kernel_rfl) (by kernel_rfl)))) (SA.var (i := 0) (by kernel_rfl) (by kernel_rfl) (by kernel_rfl) (by kernel_rfl)) SA.int (fun _ _ => rfl) (fun _ => rfl) (fun _ => rfl) (fun _ => rfl))
(SSs.one
(SS.ret (SA.ev (SA.var (i := 3) (by kernel_rfl) (by kernel_rfl) (by kernel_rfl) (by kernel_rfl))))))) SSs.nil)
(SSs.cons
(SS.set (i := 4) (by kernel_rfl) (by kernel_rfl) (SE.frz (SE.index (SA.var (i := 0) (by kernel_rfl) (by kernel_rfl) (by kernel_rfl) (by kernel_rfl)) SA.int (fun _ _ => rfl))) (fun _ => rfl))
(SSs.cons
(SS.setIx (fun X B => set_list) imp_setL (SE.frz (SE.mod (SE.frz (SE.add (SE.frz (SE.add (SE.frz (SE.mul (SE.frz (SE.mod (SE.frz (SE.mul (SA.var (i := 4) (by kernel_rfl) (by kernel_rfl) (by kernel_rfl) (by kernel_rfl)) (SA.var (i := 4) (by kernel_rfl) (by kernel_rfl) (by kernel_rfl) (by kernel_rfl)))) SA.int)) SA.int)) (SE.frz (SE.mul (SA.var (i := 4) (by kernel_rfl) (by kernel_rfl) (by kernel_rfl) (by kernel_rfl)) SA.int)))) SA.int)) SA.int)) (SA.var (i := 0) (by kernel_rfl) (by kernel_rfl) (by kernel_rfl) (by kernel_rfl)) SA.int (fun _ _ => rfl) (fun _ => rfl) (fun _ => rfl) (fun _ => rfl))
(SSs.one
(SS.ret (SE.mod (SE.frz (SE.add (SE.frz (SE.div (SE.frz (SE.index (SA.var (i := 0) (by kernel_rfl) (by kernel_rfl) (by kernel_rfl) (by kernel_rfl)) SA.int (fun _ _ => rfl))) SA.int)) (SE.frz (SE.mul (SE.frz (SE.mod (SE.frz (SE.index (SA.var (i := 0) (by kernel_rfl) (by kernel_rfl) (by kernel_rfl) (by kernel_rfl)) SA.int (fun _ _ => rfl))) SA.int)) SA.int)))) (SA.var (i := 1) (by kernel_rfl) (by kernel_rfl) (by kernel_rfl) (by kernel_rfl)))))))))
theorem ok__law_pull {C : Com} (w : Wd C) : Ok C "_law_pull" ["_law_draw", "_law_total_of"] 1 S_law_pull := w.f__law_pull.t (N := N__law_pull) (ps := ["_law_draw", "_law_total_of"]) (k := 0) (by kernel_rfl) (fun _ _ _ _ _ _ us hl => match us, hl with | [_, _], _ => rfl) (der__law_pull w (Nat.le_refl _))

/-! _law_like -/
def N__law_like : List Str := ["_law_found", "_law_due", "_law_k"]
def G_law_like_s1 (self : Fn) : Stm := (ifS (boolR (e2 (d2 isND) (getV 1) (pureE .non))) (retS (e2 (d2 isND) (getV 0) (pureE .non))) nxS)
def G_law_like_s2 (self : Fn) : Stm := (ifS (boolR (e1 (isiF .bl) (getV 1))) (retS (seE (bandE (frzE (e1 (isiF .bl) (getV 0))) (frzE (e2 (eqF false) (getV 0) (getV 1)))))) nxS)
def G_law_like_s3 (self : Fn) : Stm := (ifS (boolR (e1 (isiF .int) (getV 1))) (retS (seE (bandE (frzE (e1 (isiF .int) (getV 0))) (bandE (t1 bnotD (frzE (e1 (isiF .bl) (getV 0)))) (frzE (e2 (eqF false) (getV 0) (getV 1))))))) nxS)
def G_law_like_s4 (self : Fn) : Stm := (ifS (boolR (e1 (isiF .str) (getV 1))) (retS (seE (bandE (frzE (e1 (isiF .str) (getV 0))) (frzE (e2 (eqF false) (getV 0) (getV 1)))))) nxS)
def G_law_like_s5 (self : Fn) : Stm := (ifS (orB (boolR (e2 (eqF true) (frzE (e1 (isiF .tup) (getV 1))) (frzE (e1 (isiF .tup) (getV 0))))) (boolR (e2 (eqF true) (frzE (e1 (isiF .lst) (getV 1))) (frzE (e1 (isiF .lst) (getV 0)))))) (retS (seE (pureE (.bl false)))) nxS)
def G_law_like_s6 (self : Fn) : Stm := (ifS (boolR (e2 (eqF true) (frzE (eL lenF (consE (getV 0) nilE))) (frzE (eL lenF (consE (getV 1) nilE))))) (retS (seE (pureE (.bl false)))) nxS)
def G_law_like_e1 (self : Fn) : Ex AV := (frzE (callE self 2 [] (consE (frzE (e2 ixF (getV 0) (getV 2))) (consE (frzE (e2 ixF (getV 1) (getV 2))) nilE))))
def G_law_like_s7 (self : Fn) : Stm := (retS (eL (lblF fun bs => bs.all id) (consE (frzE (lcE (rng1 (consE (frzE (eL lenF (consE (getV 1) nilE))) nilE)) (nameB 2) [2] yesT (stE (G_law_like_e1 self)))) nilE)))
def G_law_like (self : Fn) : Stm := (seqS (G_law_like_s1 self) (seqS (G_law_like_s2 self) (seqS (G_law_like_s3 self) (seqS (G_law_like_s4 self) (seqS (G_law_like_s5 self) (seqS (G_law_like_s6 self) (G_law_like_s7 self)))))))
def S_law_like : Nat → Fn
  | 0 => mkT 3 noS
  | i + 1 => mkT 3 (G_law_like (S_law_like i))
theorem der__law_like {C : Com} (w : Wd C) {k j : Nat} (hk : 0 ≤ k) {self : Fn} (hs : Ok C "_law_like" ["_law_found", "_law_due"] j self) (hj : j ≤ k) : SSs C N__law_like (defScope (top 13)) k (defBody (top 13)) (G_law_like self) :=
(SSs.cons
(SS.ite (SB.isN (SA.var (i := 1) (by kernel_rfl) (by kernel_rfl) (by kernel_rfl) (by kernel_rfl)) SA.non (nomark _)) (SSs.one
(SS.ret (SE.isN (SA.var (i := 0) (by kernel_rfl) (by kernel_rfl) (by kernel_rfl) (by kernel_rfl)) SA.non (nomark _)))) SSs.nil)
(SSs.cons
(SS.ite (SB.ofE (SE.isa (T := .bl) (glo_isinstance w (by kernel_rfl)) (glo_bool w (by kernel_rfl)) (SA.var (i := 1) (by kernel_rfl) (by kernel_rfl) (by kernel_rfl) (by kernel_rfl)) ⟨fun _ => rfl, fun _ => rfl⟩ (fun _ => rfl)) (fun _ _ => rfl)) (SSs.one
(SS.ret (SA.ev (SA.band (SE.frz (SE.isa (T := .bl) (glo_isinstance w (by kernel_rfl)) (glo_bool w (by kernel_rfl)) (SA.var (i := 0) (by kernel_rfl) (by kernel_rfl) (by kernel_rfl) (by kernel_rfl)) ⟨fun _ => rfl, fun _ => rfl⟩ (fun _ => rfl))) (SA.bool1 (SE.frz (SE.eq (SA.var (i := 0) (by kernel_rfl) (by kernel_rfl) (by kernel_rfl) (by kernel_rfl)) (SA.var (i := 1) (by kernel_rfl) (by kernel_rfl) (by kernel_rfl) (by kernel_rfl)) (nomark _)))))))) SSs.nil)
(SSs.cons
(SS.ite (SB.ofE (SE.isa (T := .int) (glo_isinstance w (by kernel_rfl)) (glo_int w (by kernel_rfl)) (SA.var (i := 1) (by kernel_rfl) (by kernel_rfl) (by kernel_rfl) (by kernel_rfl)) ⟨fun _ => rfl, fun _ => rfl⟩ (fun _ => rfl)) (fun _ _ => rfl)) (SSs.one
(SS.ret (SA.ev (SA.band (SE.frz (SE.isa (T := .int) (glo_isinstance w (by kernel_rfl)) (glo_int w (by kernel_rfl)) (SA.var (i := 0) (by kernel_rfl) (by kernel_rfl) (by kernel_rfl) (by kernel_rfl)) ⟨fun _ => rfl, fun _ => rfl⟩ (fun _ => rfl))) (SA.band (SA.bnot (SE.frz (SE.isa (T := .bl) (glo_isinstance w (by kernel_rfl)) (glo_bool w (by kernel_rfl)) (SA.var (i := 0) (by kernel_rfl) (by kernel_rfl) (by kernel_rfl) (by kernel_rfl)) ⟨fun _ => rfl, fun _ => rfl⟩ (fun _ => rfl)))) (SA.bool1 (SE.frz (SE.eq (SA.var (i := 0) (by kernel_rfl) (by kernel_rfl) (by kernel_rfl) (by kernel_rfl)) (SA.var (i := 1) (by kernel_rfl) (by kernel_rfl) (by kernel_rfl) (by kernel_rfl)) (nomark _))))))))) SSs.nil)
(SSs.cons
(SS.ite (SB.ofE (SE.isa (T := .str) (glo_isinstance w (by kernel_rfl)) (glo_str w (by kernel_rfl)) (SA.var (i := 1) (by kernel_rfl) (by kernel_rfl) (by kernel_rfl) (by kernel_rfl)) ⟨fun _ => rfl, fun _ => rfl⟩ (fun _ => rfl)) (fun _ _ => rfl)) (SSs.one
(SS.ret (SA.ev (SA.band (SE.frz (SE.isa (T := .str) (glo_isinstance w (by kernel_rfl)) (glo_str w (by kernel_rfl)) (SA.var (i := 0) (by kernel_rfl) (by kernel_rfl) (by kernel_rfl) (by kernel_rfl)) ⟨fun _ => rfl, fun _ => rfl⟩ (fun _ => rfl))) (SA.bool1 (SE.frz (SE.eq (SA.var (i := 0) (by kernel_rfl) (by kernel_rfl) (by kernel_rfl) (by kernel_rfl)) (SA.var (i := 1) (by kernel_rfl) (by kernel_rfl) (by kernel_rfl) (by kernel_rfl)) (nomark _)))))))) SSs.nil)
(SSs.cons
(SS.ite (SW.sb (SW.or (SB.ne (SE.frz (SE.isa (T := .tup) (glo_isinstance w (by kernel_rfl)) (glo_tuple w (by kernel_rfl)) (SA.var (i := 1) (by kernel_rfl) (by kernel_rfl) (by kernel_rfl) (by kernel_rfl)) ⟨fun _ => rfl, fun _ => rfl⟩ (fun _ => rfl))) (SE.frz (SE.isa (T := .tup) (glo_isinstance w (by kernel_rfl)) (glo_tuple w (by kernel_rfl)) (SA.var (i := 0) (by kernel_rfl) (by kernel_rfl) (by kernel_rfl) (by kernel_rfl)) ⟨fun _ => rfl, fun _ => rfl⟩ (fun _ => rfl))) (nomark _)) (SW.or1 (SB.ne (SE.frz (SE.isa (T := .lst) (glo_isinstance w (by kernel_rfl)) (glo_list w (by kernel_rfl)) (SA.var (i := 1) (by kernel_rfl) (by kernel_rfl) (by kernel_rfl) (by kernel_rfl)) ⟨fun _ => rfl, fun _ => rfl⟩ (fun _ => rfl))) (SE.frz (SE.isa (T := .lst) (glo_isinstance w (by kernel_rfl)) (glo_list w (by kernel_rfl)) (SA.var (i := 0) (by kernel_rfl) (by kernel_rfl) (by kernel_rfl) (by kernel_rfl)) ⟨fun _ => rfl, fun _ => rfl⟩ (fun _ => rfl))) (nomark _))))) (SSs.one
(SS.ret (SA.ev SA.bl))) SSs.nil)
(SSs.cons
(SS.ite (SB.ne (SE.frz (SE.len (glo_len w (by kernel_rfl)) ⟨fun _ => rfl, fun _ => rfl⟩ (SAs.cons (SA.var (i := 0) (by kernel_rfl) (by kernel_rfl) (by kernel_rfl) (by kernel_rfl)) SAs.nil (fun _ => rfl)))) (SE.frz (SE.len (glo_len w (by kernel_rfl)) ⟨fun _ => rfl, fun _ => rfl⟩ (SAs.cons (SA.var (i := 1) (by kernel_rfl) (by kernel_rfl) (by kernel_rfl) (by kernel_rfl)) SAs.nil (fun _ => rfl)))) (nomark _)) (SSs.one
(SS.ret (SA.ev SA.bl))) SSs.nil)
(SSs.one
(SS.ret (SE.all (glo_all w (by kernel_rfl)) ⟨fun _ => rfl, fun _ => rfl⟩ (SAs.cons (SE.frz (SE.lc (own := [("_law_k", 2)]) (by decide) (SI.range1 (by kernel_rfl) w.n_range (SAs.cons (SE.frz (SE.len (glo_len w (by kernel_rfl)) ⟨fun _ => rfl, fun _ => rfl⟩ (SAs.cons (SA.var (i := 1) (by kernel_rfl) (by kernel_rfl) (by kernel_rfl) (by kernel_rfl)) SAs.nil (fun _ => rfl)))) SAs.nil (fun _ => rfl)) (fun _ => rfl)) (by kernel_rfl) (by simp) (SG.name (i := 2) (by kernel_rfl) (by kernel_rfl)) SF.nil (SE.frz (SE.fn hs hj (SAs.cons (SE.frz (SE.index (SA.var (i := 0) (by kernel_rfl) (by kernel_rfl) (by kernel_rfl) (by kernel_rfl)) (SA.var (i := 2) (by kernel_rfl) (by kernel_rfl) (by kernel_rfl) (by kernel_rfl)) (fun _ _ => rfl))) (SAs.cons (SE.frz (SE.index (SA.var (i := 1) (by kernel_rfl) (by kernel_rfl) (by kernel_rfl) (by kernel_rfl)) (SA.var (i := 2) (by kernel_rfl) (by kernel_rfl) (by kernel_rfl) (by kernel_rfl)) (fun _ _ => rfl))) SAs.nil (fun _ => rfl)) (fun _ => rfl)) (by kernel_rfl) (by kernel_rfl) (fun _ => rfl) (fun _ => rfl))) (fun _ _ => rfl))) SAs.nil (fun _ => rfl)))))))))))
theorem ok__law_like {C : Com} (w : Wd C) : ∀ n : Nat, Ok C "_law_like" ["_law_found", "_law_due"] (0 + 1 + n) (S_law_like n)
  | 0 => w.f__law_like.t (N := N__law_like) (ps := ["_law_found", "_law_due"]) (k := 0) (by kernel_rfl) (fun _ _ _ _ _ _ us hl => match us, hl with | [_, _], _ => rfl) SSs.no
  | n + 1 => w.f__law_like.t (N := N__law_like) (ps := ["_law_found", "_law_due"]) (k := 0 + 1 + n) (by kernel_rfl) (fun _ _ _ _ _ _ us hl => match us, hl with | [_, _], _ => rfl) (der__law_like w (by omega) (ok__law_like w n) (Nat.le_refl _))

/-! _law_any -/
def N__law_any : List Str := ["_law_draw", "_law_some"]
def G_law_any_s1 : Stm := (retS (e2 ixF (getV 1) (frzE (callE S_law_pull 2 [] (consE (getV 0) (consE (frzE (eL lenF (consE (getV 1) nilE))) nilE))))))
def G_law_any : Stm := G_law_any_s1
def S_law_any : Fn := mkT 2 G_law_any
theorem der__law_any {C : Com} (w : Wd C) {k : Nat} (hk : 1 ≤ k) : SSs C N__law_any (defScope (top 14)) k (defBody (top 14)) G_law_any :=
(SSs.one
(SS.ret (SE.index (SA.var (i := 1) (by kernel_rfl) (by kernel_rfl) (by kernel_rfl) (by kernel_rfl)) (SE.frz (SE.fn (ok__law_pull w) (Nat.le_trans (by decide) hk) (SAs.cons (SA.var (i := 0) (by kernel_rfl) (by kernel_rfl) (by kernel_rfl) (by kernel_rfl)) (SAs.cons (SE.frz (SE.len (glo_len w (by kernel_rfl)) ⟨fun _ => rfl, fun _ => rfl⟩ (SAs.cons (SA.var (i := 1) (by kernel_rfl) (by kernel_rfl) (by kernel_rfl) (by kernel_rfl)) SAs.nil (fun _ => rfl)))) SAs.nil (fun _ => rfl)) (fun _ => rfl)) (by kernel_rfl) (by kernel_rfl) (fun _ => rfl) (fun _ => rfl))) (fun _ _ => rfl))))
theorem ok__law_any {C : Com} (w : Wd C) : Ok C "_law_any" ["_law_draw", "_law_some"] 2 S_law_any := w.f__law_any.t (N := N__law_any) (ps := ["_law_draw", "_law_some"]) (k := 1) (by kernel_rfl) (fun _ _ _ _ _ _ us hl => match us, hl with | [_, _], _ => rfl) (der__law_any w (Nat.le_refl _))

/-! _law_letters -/
def N__law_letters : List Str := ["_law_draw", "_law_many", "_law_left", "_law_k"]
def G_law_letters_s1 : Stm := (ownS 2 (eL listAF (consE (pureE (.str [97, 98, 99, 100, 101, 102, 103, 104, 105, 106, 107, 108, 109, 110, 111, 112, 113, 114, 115, 116, 117, 118, 119, 120, 121, 122])) nilE)))
def G_law_letters_s2 : Stm := (ifS (boolR (e2 (eqF false) (frzE (callE S_law_pull 2 [] (consE (getV 0) (consE (pureE (.int 2)) nilE)))) (pureE (.int 0)))) (ownS 2 (eL listAF (consE (pureE (.str [97, 98, 99, 100, 101, 102, 103, 104, 105, 106, 107])) nilE))) nxS)
def G_law_letters_e1 : Ex AV := (frzE (eMt isLstA popAtF (getV 2) (consE (frzE (callE S_law_pull 2 [] (consE (getV 0) (consE (frzE (eL lenF (consE (getV 2) nilE))) nilE)))) nilE)))
def G_law_letters_s3 : Stm := (retS (lcE (rng1 (consE (getV 1) nilE)) (nameB 3) [3] yesT (stE G_law_letters_e1)))
def G_law_letters : Stm := (seqS G_law_letters_s1 (seqS G_law_letters_s2 G_law_letters_s3))
def S_law_letters : Fn := mkT 4 G_law_letters
theorem der__law_letters {C : Com} (w : Wd C) {k : Nat} (hk : 1 ≤ k) : SSs C N__law_letters (defScope (top 15)) k (defBody (top 15)) G_law_letters :=
(SSs.cons
(SS.own (i := 2) (by kernel_rfl) (by kernel_rfl) (SE.list (glo_list w (by kernel_rfl)) ⟨fun _ => rfl, fun _ => rfl⟩ (SAs.cons (SA.str (l := [97, 98, 99, 100, 101, 102, 103, 104, 105, 106, 107, 108, 109, 110, 111, 112, 113, 114, 115, 116, 117, 118, 119, 120, 121, 122]) (by kernel_rfl)) SAs.nil (fun _ => rfl))) (fun _ => rfl))
(SSs.cons
(SS.ite (SB.eq (SE.frz (SE.fn (ok__law_pull w) (Nat.le_trans (by decide) hk) (SAs.cons (SA.var (i := 0) (by kernel_rfl) (by kernel_rfl) (by kernel_rfl) (by kernel_rfl)) (SAs.cons SA.int SAs.nil (fun _ => rfl)) (fun _ => rfl)) (by kernel_rfl) (by kernel_rfl) (fun _ => rfl) (fun _ => rfl))) SA.int (nomark _)) (SSs.one
(SS.own (i := 2) (by kernel_rfl) (by kernel_rfl) (SE.list (glo_list w (by kernel_rfl)) ⟨fun _ => rfl, fun _ => rfl⟩ (SAs.cons (SA.str (l := [97, 98, 99, 100, 101, 102, 103, 104, 105, 106, 107]) (by kernel_rfl)) SAs.nil (fun _ => rfl))) (fun _ => rfl))) SSs.nil)
(SSs.one
(SS.ret (SE.lc (own := [("_law_k", 3)]) (by decide) (SI.range1 (by kernel_rfl) w.n_range (SAs.cons (SA.var (i := 1) (by kernel_rfl) (by kernel_rfl) (by kernel_rfl) (by kernel_rfl)) SAs.nil (fun _ => rfl)) (fun _ => rfl)) (by kernel_rfl) (by simp) (SG.name (i := 3) (by kernel_rfl) (by kernel_rfl)) SF.nil (SE.frz (SE.popAt ⟨fun _ => rfl, fun _ => rfl, by kernel_rfl⟩ ⟨fun _ => rfl, fun _ => rfl⟩ (SA.var (i := 2) (by kernel_rfl) (by kernel_rfl) (by kernel_rfl) (by kernel_rfl)) (SAs.cons (SE.frz (SE.fn (ok__law_pull w) (Nat.le_trans (by decide) hk) (SAs.cons (SA.var (i := 0) (by kernel_rfl) (by kernel_rfl) (by kernel_rfl) (by kernel_rfl)) (SAs.cons (SE.frz (SE.len (glo_len w (by kernel_rfl)) ⟨fun _ => rfl, fun _ => rfl⟩ (SAs.cons (SA.var (i := 2) (by kernel_rfl) (by kernel_rfl) (by kernel_rfl) (by kernel_rfl)) SAs.nil (fun _ => rfl)))) SAs.nil (fun _ => rfl)) (fun _ => rfl)) (by kernel_rfl) (by kernel_rfl) (fun _ => rfl) (fun _ => rfl))) SAs.nil (fun _ => rfl)))) (fun _ _ => rfl))))))
theorem ok__law_letters {C : Com} (w : Wd C) : Ok C "_law_letters" ["_law_draw", "_law_many"] 2 S_law_letters := w.f__law_letters.t (N := N__law_letters) (ps := ["_law_draw", "_law_many"]) (k := 1) (by kernel_rfl) (fun _ _ _ _ _ _ us hl => match us, hl with | [_, _], _ => rfl) (der__law_letters w (Nat.le_refl _))

/-! _law_pattern -/
def N__law_pattern : List Str := ["_law_draw", "_law_beads", "_law_room", "_law_kind", "_law_half", "_law_first"]
def G_law_pattern_s1 (self : Fn) : Stm := (setS 3 (frzE (callE S_law_pull 2 [] (consE (getV 0) (consE (pureE (.int 9)) nilE)))))
def G_law_pattern_s2 (self : Fn) : Stm := (ifS (orB (boolR (e2 (d2 ltD) (getV 2) (pureE (.int 2)))) (boolR (e2 (eqF false) (getV 3) (pureE (.int 0))))) (retS (e2 ixF (frzE (lstE (consE (frzE (tupE (consE (pureE (.str [98, 101, 97, 100])) (consE (frzE (callE S_law_any 2 [] (consE (getV 0) (consE (getV 1) nilE)))) nilE)))) (consE (frzE (tupE (consE (pureE (.str [101, 109, 112, 116, 121])) nilE))) nilE)))) (frzE (eL intF (consE (frzE (e2 (eqF false) (frzE (callE S_law_pull 2 [] (consE (getV 0) (consE (pureE (.int 7)) nilE)))) (pureE (.int 0)))) nilE))))) nxS)
def G_law_pattern_s3 (self : Fn) : Stm := (ifS (orB (boolR (e2 (d2 ltD) (getV 3) (pureE (.int 4)))) (boolR (e2 (d2 ltD) (getV 2) (pureE (.int 3))))) (retS (tupE (consE (pureE (.str [97, 103, 97, 105, 110])) (consE (frzE (callE self 3 [] (consE (getV 0) (consE (getV 1) (consE (frzE (e2 (d2 subD) (getV 2) (pureE (.int 1)))) nilE))))) nilE)))) nxS)
def G_law_pattern_s4 (self : Fn) : Stm := (setS 4 (frzE (e2 addF (pureE (.int 1)) (frzE (callE S_law_pull 2 [] (consE (getV 0) (consE (frzE (e2 (d2 subD) (getV 2) (pureE (.int 2)))) nilE)))))))
def G_law_pattern_s5 (self : Fn) : Stm := (setS 5 (frzE (callE self 3 [] (consE (getV 0) (consE (getV 1) (consE (getV 4) nilE))))))
def G_law_pattern_s6 (self : Fn) : Stm := (retS (tupE (consE (frzE (e2 ixF (frzE (lstE (consE (pureE (.str [116, 104, 101, 110])) (consE (pureE (.str [111, 114])) nilE)))) (frzE (e2 (d2 modD) (getV 3) (pureE (.int 2)))))) (consE (getV 5) (consE (frzE (callE self 3 [] (consE (getV 0) (consE (getV 1) (consE (frzE (e2 (d2 subD) (frzE (e2 (d2 subD) (getV 2) (pureE (.int 1)))) (getV 4))) nilE))))) nilE)))))
def G_law_pattern (self : Fn) : Stm := (seqS (G_law_pattern_s1 self) (seqS (G_law_pattern_s2 self) (seqS (G_law_pattern_s3 self) (seqS (G_law_pattern_s4 self) (seqS (G_law_pattern_s5 self) (G_law_pattern_s6 self))))))
def S_law_pattern : Nat → Fn
  | 0 => mkT 6 noS
  | i + 1 => mkT 6 (G_law_pattern (S_law_pattern i))
theorem der__law_pattern {C : Com} (w : Wd C) {k j : Nat} (hk : 2 ≤ k) {self : Fn} (hs : Ok C "_law_pattern" ["_law_draw", "_law_beads", "_law_room"] j self) (hj : j ≤ k) : SSs C N__law_pattern (defScope (top 16)) k (defBody (top 16)) (G_law_pattern self) :=
(SSs.cons
(SS.set (i := 3) (by kernel_rfl) (by kernel_rfl) (SE.frz (SE.fn (ok__law_pull w) (Nat.le_trans (by decide) hk) (SAs.cons (SA.var (i := 0) (by kernel_rfl) (by kernel_rfl) (by kernel_rfl) (by kernel_rfl)) (SAs.cons SA.int SAs.nil (fun _ => rfl)) (fun _ => rfl)) (by kernel_rfl) (by kernel_rfl) (fun _ => rfl) (fun _ => rfl))) (fun _ => rfl))
(SSs.cons
(SS.ite (SW.sb (SW.or (SB.lt (SA.var (i := 2) (by kernel_rfl) (by kernel_rfl) (by kernel_rfl) (by kernel_rfl)) SA.int (nomark _)) (SW.or1 (SB.eq (SA.var (i := 3) (by kernel_rfl) (by kernel_rfl) (by kernel_rfl) (by kernel_rfl)) SA.int (nomark _))))) (SSs.one
(SS.ret (SE.index (SE.frz (SE.lst (SAs.cons (SE.frz (SE.tup (SAs.cons (SA.str (l := [98, 101, 97, 100]) (by kernel_rfl)) (SAs.cons (SE.frz (SE.fn (ok__law_any w) (Nat.le_trans (by decide) hk) (SAs.cons (SA.var (i := 0) (by kernel_rfl) (by kernel_rfl) (by kernel_rfl) (by kernel_rfl)) (SAs.cons (SA.var (i := 1) (by kernel_rfl) (by kernel_rfl) (by kernel_rfl) (by kernel_rfl)) SAs.nil (fun _ => rfl)) (fun _ => rfl)) (by kernel_rfl) (by kernel_rfl) (fun _ => rfl) (fun _ => rfl))) SAs.nil (fun _ => rfl)) (fun _ => rfl)))) (SAs.cons (SE.frz (SE.tup (SAs.cons (SA.str (l := [101, 109, 112, 116, 121]) (by kernel_rfl)) SAs.nil (fun _ => rfl)))) SAs.nil (fun _ => rfl)) (fun _ => rfl)))) (SE.frz (SE.int (glo_int w (by kernel_rfl)) ⟨fun _ => rfl, fun _ => rfl⟩ (SAs.cons (SE.frz (SE.eq (SE.frz (SE.fn (ok__law_pull w) (Nat.le_trans (by decide) hk) (SAs.cons (SA.var (i := 0) (by kernel_rfl) (by kernel_rfl) (by kernel_rfl) (by kernel_rfl)) (SAs.cons SA.int SAs.nil (fun _ => rfl)) (fun _ => rfl)) (by kernel_rfl) (by kernel_rfl) (fun _ => rfl) (fun _ => rfl))) SA.int (nomark _))) SAs.nil (fun _ => rfl)))) (fun _ _ => rfl)))) SSs.nil)
(SSs.cons
(SS.ite (SW.sb (SW.or (SB.lt (SA.var (i := 3) (by kernel_rfl) (by kernel_rfl) (by kernel_rfl) (by kernel_rfl)) SA.int (nomark _)) (SW.or1 (SB.lt (SA.var (i := 2) (by kernel_rfl) (by kernel_rfl) (by kernel_rfl) (by kernel_rfl)) SA.int (nomark _))))) (SSs.one
(SS.ret (SE.tup (SAs.cons (SA.str (l := [97, 103, 97, 105, 110]) (by kernel_rfl)) (SAs.cons (SE.frz (SE.fn hs hj (SAs.cons (SA.var (i := 0) (by kernel_rfl) (by kernel_rfl) (by kernel_rfl) (by kernel_rfl)) (SAs.cons (SA.var (i := 1) (by kernel_rfl) (by kernel_rfl) (by kernel_rfl) (by kernel_rfl)) (SAs.cons (SE.frz (SE.sub (SA.var (i := 2) (by kernel_rfl) (by kernel_rfl) (by kernel_rfl) (by kernel_rfl)) SA.int)) SAs.nil (fun _ => rfl)) (fun _ => rfl)) (fun _ => rfl)) (by kernel_rfl) (by kernel_rfl) (fun _ => rfl) (fun _ => rfl))) SAs.nil (fun _ => rfl)) (fun _ => rfl))))) SSs.nil)
(SSs.cons
(SS.set (i := 4) (by kernel_rfl) (by kernel_rfl) (SE.frz (SE.add SA.int (SE.frz (SE.fn (ok__law_pull w) (Nat.le_trans (by decide) hk) (SAs.cons (SA.var (i := 0) (by kernel_rfl) (by kernel_rfl) (by kernel_rfl) (by kernel_rfl)) (SAs.cons (SE.frz (SE.sub (SA.var (i := 2) (by kernel_rfl) (by kernel_rfl) (by kernel_rfl) (by kernel_rfl)) SA.int)) SAs.nil (fun _ => rfl)) (fun _ => rfl)) (by kernel_rfl) (by kernel_rfl) (fun _ => rfl) (fun _ => rfl))))) (fun _ => rfl))
(SSs.cons
(SS.set (i := 5) (by kernel_rfl) (by kernel_rfl) (SE.frz (SE.fn hs hj (SAs.cons (SA.var (i := 0) (by kernel_rfl) (by kernel_rfl) (by kernel_rfl) (by kernel_rfl)) (SAs.cons (SA.var (i := 1) (by kernel_rfl) (by kernel_rfl) (by kernel_rfl) (by kernel_rfl)) (SAs.cons (SA.var (i := 4) (by kernel_rfl) (by kernel_rfl) (by kernel_rfl) (by kernel_rfl)) SAs.nil (fun _ => rfl)) (fun _ => rfl)) (fun _ => rfl)) (by kernel_rfl) (by kernel_rfl) (fun _ => rfl) (fun _ => rfl))) (fun _ => rfl))
(SSs.one
(SS.ret (SE.tup (SAs.cons (SE.frz (SE.index (SE.frz (SE.lst (SAs.cons (SA.str (l := [116, 104, 101, 110]) (by kernel_rfl)) (SAs.cons (SA.str (l := [111, 114]) (by kernel_rfl)) SAs.nil (fun _ => rfl)) (fun _ => rfl)))) (SE.frz (SE.mod (SA.var (i := 3) (by kernel_rfl) (by kernel_rfl) (by kernel_rfl) (by kernel_rfl)) SA.int)) (fun _ _ => rfl))) (SAs.cons (SA.var (i := 5) (by kernel_rfl) (by kernel_rfl) (by kernel_rfl) (by kernel_rfl)) (SAs.cons (SE.frz (SE.fn hs hj (SAs.cons (SA.var (i := 0) (by kernel_rfl) (by kernel_rfl) (by kernel_rfl) (by kernel_rfl)) (SAs.cons (SA.var (i := 1) (by kernel_rfl) (by kernel_rfl) (by kernel_rfl) (by kernel_rfl)) (SAs.cons (SE.frz (SE.sub (SE.frz (SE.sub (SA.var (i := 2) (by kernel_rfl) (by kernel_rfl) (by kernel_rfl) (by kernel_rfl)) SA.int)) (SA.var (i := 4) (by kernel_rfl) (by kernel_rfl) (by kernel_rfl) (by kernel_rfl)))) SAs.nil (fun _ => rfl)) (fun _ => rfl)) (fun _ => rfl)) (by kernel_rfl) (by kernel_rfl) (fun _ => rfl) (fun _ => rfl))) SAs.nil (fun _ => rfl)) (fun _ => rfl)) (fun _ => rfl))))))))))
theorem ok__law_pattern {C : Com} (w : Wd C) : ∀ n : Nat, Ok C "_law_pattern" ["_law_draw", "_law_beads", "_law_room"] (2 + 1 + n) (S_law_pattern n)
  | 0 => w.f__law_pattern.t (N := N__law_pattern) (ps := ["_law_draw", "_law_beads", "_law_room"]) (k := 2) (by kernel_rfl) (fun _ _ _ _ _ _ us hl => match us, hl with | [_, _, _], _ => rfl) SSs.no
  | n + 1 => w.f__law_pattern.t (N := N__law_pattern) (ps := ["_law_draw", "_law_beads", "_law_room"]) (k := 2 + 1 + n) (by kernel_rfl) (fun _ _ _ _ _ _ us hl => match us, hl with | [_, _, _], _ => rfl) (der__law_pattern w (by omega) (ok__law_pattern w n) (Nat.le_refl _))

/-! _law_parts -/
def N__law_parts : List Str := ["_law_pattern_here", "_law_part"]
def G_law_parts_s1 (self : Fn) : Stm := (ifS (boolR (e2 (inF false) (frzE (e2 ixF (getV 0) (pureE (.int 0)))) (frzE (tupE (consE (pureE (.str [101, 109, 112, 116, 121])) (consE (pureE (.str [98, 101, 97, 100])) nilE)))))) (retS (seE (pureE (.int 1)))) nxS)
def G_law_parts_e1 (self : Fn) : Ex AV := (frzE (callE self 1 [] (consE (getV 1) nilE)))
def G_law_parts_s2 (self : Fn) : Stm := (retS (e2 addF (pureE (.int 1)) (frzE (eL (lintF fun is => some is.sum) (consE (frzE (lcE (itE (frzE (eS slF (getV 0) (intPart (pureE (.int 1))) noPart))) (nameB 1) [1] yesT (stE (G_law_parts_e1 self)))) nilE)))))
def G_law_parts (self : Fn) : Stm := (seqS (G_law_parts_s1 self) (G_law_parts_s2 self))
def S_law_parts : Nat → Fn
  | 0 => mkT 2 noS
  | i + 1 => mkT 2 (G_law_parts (S_law_parts i))
theorem der__law_parts {C : Com} (w : Wd C) {k j : Nat} (hk : 0 ≤ k) {self : Fn} (hs : Ok C "_law_parts" ["_law_pattern_here"] j self) (hj : j ≤ k) : SSs C N__law_parts (defScope (top 17)) k (defBody (top 17)) (G_law_parts self) :=
(SSs.cons
(SS.ite (SB.in (SE.frz (SE.index (SA.var (i := 0) (by kernel_rfl) (by kernel_rfl) (by kernel_rfl) (by kernel_rfl)) SA.int (fun _ _ => rfl))) (SE.frz (SE.tup (SAs.cons (SA.str (l := [101, 109, 112, 116, 121]) (by kernel_rfl)) (SAs.cons (SA.str (l := [98, 101, 97, 100]) (by kernel_rfl)) SAs.nil (fun _ => rfl)) (fun _ => rfl)))) (by first | rfl | kernel_rfl)) (SSs.one
(SS.ret (SA.ev SA.int))) SSs.nil)
(SSs.one
(SS.ret (SE.add SA.int (SE.frz (SE.sum (glo_sum w (by kernel_rfl)) ⟨fun _ => rfl, fun _ => rfl⟩ (SAs.cons (SE.frz (SE.lc (own := [("_law_part", 1)]) (by decide) (SI.any (SE.frz (SE.slice (SA.var (i := 0) (by kernel_rfl) (by kernel_rfl) (by kernel_rfl) (by kernel_rfl)) (SP.some SA.int) SP.none))) (by kernel_rfl) (by simp) (SG.name (i := 1) (by kernel_rfl) (by kernel_rfl)) SF.nil (SE.frz (SE.fn hs hj (SAs.cons (SA.var (i := 1) (by kernel_rfl) (by kernel_rfl) (by kernel_rfl) (by kernel_rfl)) SAs.nil (fun _ => rfl)) (by kernel_rfl) (by kernel_rfl) (fun _ => rfl) (fun _ => rfl))) (fun _ _ => rfl))) SAs.nil (fun _ => rfl))))))))
theorem ok__law_parts {C : Com} (w : Wd C) : ∀ n : Nat, Ok C "_law_parts" ["_law_pattern_here"] (0 + 1 + n) (S_law_parts n)
  | 0 => w.f__law_parts.t (N := N__law_parts) (ps := ["_law_pattern_here"]) (k := 0) (by kernel_rfl) (fun _ _ _ _ _ _ us hl => match us, hl with | [_], _ => rfl) SSs.no
  | n + 1 => w.f__law_parts.t (N := N__law_parts) (ps := ["_law_pattern_here"]) (k := 0 + 1 + n) (by kernel_rfl) (fun _ _ _ _ _ _ us hl => match us, hl with | [_], _ => rfl) (der__law_parts w (by omega) (ok__law_parts w n) (Nat.le_refl _))

/-! _law_deep -/
def N__law_deep : List Str := ["_law_pattern_here", "_law_part"]
def G_law_deep_s1 (self : Fn) : Stm := (ifS (boolR (e2 (inF false) (frzE (e2 ixF (getV 0) (pureE (.int 0)))) (frzE (tupE (consE (pureE (.str [101, 109, 112, 116, 121])) (consE (pureE (.str [98, 101, 97, 100])) nilE)))))) (retS (seE (pureE (.int 1)))) nxS)
def G_law_deep_e1 (self : Fn) : Ex AV := (frzE (callE self 1 [] (consE (getV 1) nilE)))
def G_law_deep_s2 (self : Fn) : Stm := (retS (e2 addF (pureE (.int 1)) (frzE (eL (lintF greatest) (consE (frzE (lcE (itE (frzE (eS slF (getV 0) (intPart (pureE (.int 1))) noPart))) (nameB 1) [1] yesT (stE (G_law_deep_e1 self)))) nilE)))))
def G_law_deep (self : Fn) : Stm := (seqS (G_law_deep_s1 self) (G_law_deep_s2 self))
def S_law_deep : Nat → Fn
  | 0 => mkT 2 noS
  | i + 1 => mkT 2 (G_law_deep (S_law_deep i))
theorem der__law_deep {C : Com} (w : Wd C) {k j : Nat} (hk : 0 ≤ k) {self : Fn} (hs : Ok C "_law_deep" ["_law_pattern_here"] j self) (hj : j ≤ k) : SSs C N__law_deep (defScope (top 18)) k (defBody (top 18)) (G_law_deep self) :=
(SSs.cons
(SS.ite (SB.in (SE.frz (SE.index (SA.var (i := 0) (by kernel_rfl) (by kernel_rfl) (by kernel_rfl) (by kernel_rfl)) SA.int (fun _ _ => rfl))) (SE.frz (SE.tup (SAs.cons (SA.str (l := [101, 109, 112, 116, 121]) (by kernel_rfl)) (SAs.cons (SA.str (l := [98, 101, 97, 100]) (by kernel_rfl)) SAs.nil (fun _ => rfl)) (fun _ => rfl)))) (by first | rfl | kernel_rfl)) (SSs.one
(SS.ret (SA.ev SA.int))) SSs.nil)
(SSs.one
(SS.ret (SE.add SA.int (SE.frz (SE.max (glo_max w (by kernel_rfl)) ⟨fun _ => rfl, fun _ => rfl⟩ (SAs.cons (SE.frz (SE.lc (own := [("_law_part", 1)]) (by decide) (SI.any (SE.frz (SE.slice (SA.var (i := 0) (by kernel_rfl) (by kernel_rfl) (by kernel_rfl) (by kernel_rfl)) (SP.some SA.int) SP.none))) (by kernel_rfl) (by simp) (SG.name (i := 1) (by kernel_rfl) (by kernel_rfl)) SF.nil (SE.frz (SE.fn hs hj (SAs.cons (SA.var (i := 1) (by kernel_rfl) (by kernel_rfl) (by kernel_rfl) (by kernel_rfl)) SAs.nil (fun _ => rfl)) (by kernel_rfl) (by kernel_rfl) (fun _ => rfl) (fun _ => rfl))) (fun _ _ => rfl))) SAs.nil (fun _ => rfl))))))))
theorem ok__law_deep {C : Com} (w : Wd C) : ∀ n : Nat, Ok C "_law_deep" ["_law_pattern_here"] (0 + 1 + n) (S_law_deep n)
  | 0 => w.f__law_deep.t (N := N__law_deep) (ps := ["_law_pattern_here"]) (k := 0) (by kernel_rfl) (fun _ _ _ _ _ _ us hl => match us, hl with | [_], _ => rfl) SSs.no
  | n + 1 => w.f__law_deep.t (N := N__law_deep) (ps := ["_law_pattern_here"]) (k := 0 + 1 + n) (by kernel_rfl) (fun _ _ _ _ _ _ us hl => match us, hl with | [_], _ => rfl) (der__law_deep w (by omega) (ok__law_deep w n) (Nat.le_refl _))

/-! _law_is_built -/
def N__law_is_built : List Str := ["_law_thing", "_law_sizes", "_law_good", "_law_part"]
def G_law_is_built_s1 (self : Fn) : Stm := (ifS (orB (notB (boolR (e1 (isiF .tup) (getV 0)))) (orB (boolR (e2 (eqF false) (frzE (eL lenF (consE (getV 0) nilE))) (pureE (.int 0)))) (notB (boolR (e1 (isiF .str) (frzE (e2 ixF (getV 0) (pureE (.int 0))))))))) (retS (seE (pureE (.bl false)))) nxS)
def G_law_is_built_s2 (self : Fn) : Stm := (setS 1 (frzE (dispE (pairC (pureE (.str [101, 109, 112, 116, 121])) (pureE (.int 1)) (pairC (pureE (.str [98, 101, 97, 100])) (pureE (.int 2)) (pairC (pureE (.str [116, 104, 101, 110])) (pureE (.int 3)) (pairC (pureE (.str [111, 114])) (pureE (.int 3)) (pairC (pureE (.str [97, 103, 97, 105, 110])) (pureE (.int 2)) pairN))))))))
def G_law_is_built_s3 (self : Fn) : Stm := (ifS (boolR (e2 (eqF true) (frzE (eGet2 (getV 1) (frzE (e2 ixF (getV 0) (pureE (.int 0)))) (frzE (e1 negF (pureE (.int 1)))))) (frzE (eL lenF (consE (getV 0) nilE))))) (retS (seE (pureE (.bl false)))) nxS)
def G_law_is_built_s4 (self : Fn) : Stm := (ifS (boolR (e2 (eqF false) (frzE (e2 ixF (getV 0) (pureE (.int 0)))) (pureE (.str [98, 101, 97, 100])))) (seqS (setS 2 (bandE (frzE (e1 (isiF .str) (frzE (e2 ixF (getV 0) (pureE (.int 1)))))) (frzE (e2 (eqF false) (frzE (eL lenF (consE (frzE (e2 ixF (getV 0) (pureE (.int 1)))) nilE))) (pureE (.int 1))))))
(retS (seE (bandE (getV 2) (frzE (e2 (inF false) (frzE (e2 ixF (getV 0) (pureE (.int 1)))) (pureE (.str [97, 98, 99, 100, 101, 102, 103, 104, 105, 106, 107, 108, 109, 110, 111, 112, 113, 114, 115, 116, 117, 118, 119, 120, 121, 122])))))))) nxS)
def G_law_is_built_e1 (self : Fn) : Ex AV := (frzE (callE self 1 [] (consE (getV 3) nilE)))
def G_law_is_built_s5 (self : Fn) : Stm := (retS (eL (lblF fun bs => bs.all id) (consE (frzE (lcE (itE (frzE (eS slF (getV 0) (intPart (pureE (.int 1))) noPart))) (nameB 3) [3] yesT (stE (G_law_is_built_e1 self)))) nilE)))
def G_law_is_built (self : Fn) : Stm := (seqS (G_law_is_built_s1 self) (seqS (G_law_is_built_s2 self) (seqS (G_law_is_built_s3 self) (seqS (G_law_is_built_s4 self) (G_law_is_built_s5 self)))))
def S_law_is_built : Nat → Fn
  | 0 => mkT 4 noS
  | i + 1 => mkT 4 (G_law_is_built (S_law_is_built i))
theorem der__law_is_built {C : Com} (w : Wd C) {k j : Nat} (hk : 0 ≤ k) {self : Fn} (hs : Ok C "_law_is_built" ["_law_thing"] j self) (hj : j ≤ k) : SSs C N__law_is_built (defScope (top 19)) k (defBody (top 19)) (G_law_is_built self) :=
(SSs.cons
(SS.ite (SW.sb (SW.or (SB.not (SB.ofE (SE.isa (T := .tup) (glo_isinstance w (by kernel_rfl)) (glo_tuple w (by kernel_rfl)) (SA.var (i := 0) (by kernel_rfl) (by kernel_rfl) (by kernel_rfl) (by kernel_rfl)) ⟨fun _ => rfl, fun _ => rfl⟩ (fun _ => rfl)) (fun _ _ => rfl))) (SW.or (SB.eq (SE.frz (SE.len (glo_len w (by kernel_rfl)) ⟨fun _ => rfl, fun _ => rfl⟩ (SAs.cons (SA.var (i := 0) (by kernel_rfl) (by kernel_rfl) (by kernel_rfl) (by kernel_rfl)) SAs.nil (fun _ => rfl)))) SA.int (nomark _)) (SW.or1 (SB.not (SB.ofE (SE.isa (T := .str) (glo_isinstance w (by kernel_rfl)) (glo_str w (by kernel_rfl)) (SE.frz (SE.index (SA.var (i := 0) (by kernel_rfl) (by kernel_rfl) (by kernel_rfl) (by kernel_rfl)) SA.int (fun _ _ => rfl))) ⟨fun _ => rfl, fun _ => rfl⟩ (fun _ => rfl)) (fun _ _ => rfl))))))) (SSs.one
(SS.ret (SA.ev SA.bl))) SSs.nil)
(SSs.cons
(SS.set (i := 1) (by kernel_rfl) (by kernel_rfl) (SE.frz (SE.disp (SPP.cons (SA.str (l := [101, 109, 112, 116, 121]) (by kernel_rfl)) SA.int (SPP.cons (SA.str (l := [98, 101, 97, 100]) (by kernel_rfl)) SA.int (SPP.cons (SA.str (l := [116, 104, 101, 110]) (by kernel_rfl)) SA.int (SPP.cons (SA.str (l := [111, 114]) (by kernel_rfl)) SA.int (SPP.cons (SA.str (l := [97, 103, 97, 105, 110]) (by kernel_rfl)) SA.int SPP.nil))))) rfl rfl (by simp) (by decide))) (fun _ => rfl))
(SSs.cons
(SS.ite (SB.ne (SE.frz (SE.get2 (SA.var (i := 1) (by kernel_rfl) (by kernel_rfl) (by kernel_rfl) (by kernel_rfl)) (SE.frz (SE.index (SA.var (i := 0) (by kernel_rfl) (by kernel_rfl) (by kernel_rfl) (by kernel_rfl)) SA.int (fun _ _ => rfl))) (SE.frz (SE.usub SA.int)) (fun X B => ⟨rfl, rfl, by kernel_rfl, rfl⟩))) (SE.frz (SE.len (glo_len w (by kernel_rfl)) ⟨fun _ => rfl, fun _ => rfl⟩ (SAs.cons (SA.var (i := 0) (by kernel_rfl) (by kernel_rfl) (by kernel_rfl) (by kernel_rfl)) SAs.nil (fun _ => rfl)))) (nomark _)) (SSs.one
(SS.ret (SA.ev SA.bl))) SSs.nil)
(SSs.cons
(SS.ite (SB.eq (SE.frz (SE.index (SA.var (i := 0) (by kernel_rfl) (by kernel_rfl) (by kernel_rfl) (by kernel_rfl)) SA.int (fun _ _ => rfl))) (SA.str (l := [98, 101, 97, 100]) (by kernel_rfl)) (nomark _)) (SSs.cons
(SS.set (i := 2) (by kernel_rfl) (by kernel_rfl) (SA.band (SE.frz (SE.isa (T := .str) (glo_isinstance w (by kernel_rfl)) (glo_str w (by kernel_rfl)) (SE.frz (SE.index (SA.var (i := 0) (by kernel_rfl) (by kernel_rfl) (by kernel_rfl) (by kernel_rfl)) SA.int (fun _ _ => rfl))) ⟨fun _ => rfl, fun _ => rfl⟩ (fun _ => rfl))) (SA.bool1 (SE.frz (SE.eq (SE.frz (SE.len (glo_len w (by kernel_rfl)) ⟨fun _ => rfl, fun _ => rfl⟩ (SAs.cons (SE.frz (SE.index (SA.var (i := 0) (by kernel_rfl) (by kernel_rfl) (by kernel_rfl) (by kernel_rfl)) SA.int (fun _ _ => rfl))) SAs.nil (fun _ => rfl)))) SA.int (nomark _))))) (fun _ => rfl))
(SSs.one
(SS.ret (SA.ev (SA.band (SA.var (i := 2) (by kernel_rfl) (by kernel_rfl) (by kernel_rfl) (by kernel_rfl)) (SA.bool1 (SE.frz (SE.in (SE.frz (SE.index (SA.var (i := 0) (by kernel_rfl) (by kernel_rfl) (by kernel_rfl) (by kernel_rfl)) SA.int (fun _ _ => rfl))) (SA.str (l := [97, 98, 99, 100, 101, 102, 103, 104, 105, 106, 107, 108, 109, 110, 111, 112, 113, 114, 115, 116, 117, 118, 119, 120, 121, 122]) (by kernel_rfl)) (by first | rfl | kernel_rfl))))))))) SSs.nil)
(SSs.one
(SS.ret (SE.all (glo_all w (by kernel_rfl)) ⟨fun _ => rfl, fun _ => rfl⟩ (SAs.cons (SE.frz (SE.lc (own := [("_law_part", 3)]) (by decide) (SI.any (SE.frz (SE.slice (SA.var (i := 0) (by kernel_rfl) (by kernel_rfl) (by kernel_rfl) (by kernel_rfl)) (SP.some SA.int) SP.none))) (by kernel_rfl) (by simp) (SG.name (i := 3) (by kernel_rfl) (by kernel_rfl)) SF.nil (SE.frz (SE.fn hs hj (SAs.cons (SA.var (i := 3) (by kernel_rfl) (by kernel_rfl) (by kernel_rfl) (by kernel_rfl)) SAs.nil (fun _ => rfl)) (by kernel_rfl) (by kernel_rfl) (fun _ => rfl) (fun _ => rfl))) (fun _ _ => rfl))) SAs.nil (fun _ => rfl)))))))))
theorem ok__law_is_built {C : Com} (w : Wd C) : ∀ n : Nat, Ok C "_law_is_built" ["_law_thing"] (0 + 1 + n) (S_law_is_built n)
  | 0 => w.f__law_is_built.t (N := N__law_is_built) (ps := ["_law_thing"]) (k := 0) (by kernel_rfl) (fun _ _ _ _ _ _ us hl => match us, hl with | [_], _ => rfl) SSs.no
  | n + 1 => w.f__law_is_built.t (N := N__law_is_built) (ps := ["_law_thing"]) (k := 0 + 1 + n) (by kernel_rfl) (fun _ _ _ _ _ _ us hl => match us, hl with | [_], _ => rfl) (der__law_is_built w (by omega) (ok__law_is_built w n) (Nat.le_refl _))

/-! _law_flaw -/
def N__law_flaw : List Str := ["_law_thing"]
def G_law_flaw_s1 : Stm := (ifS (notB (boolR (callE (S_law_is_built 40) 1 [] (consE (getV 0) nilE)))) (retS (seE (pureE (.str [102, 111, 114, 109])))) nxS)
def G_law_flaw_s2 : Stm := (ifS (boolR (e2 (d2 gtD) (frzE (callE (S_law_parts 40) 1 [] (consE (getV 0) nilE))) (pureE (.int 16)))) (retS (seE (pureE (.str [109, 97, 110, 121])))) nxS)
def G_law_flaw_s3 : Stm := (retS (seE (ifE (boolR (e2 (d2 gtD) (frzE (callE (S_law_deep 40) 1 [] (consE (getV 0) nilE))) (pureE (.int 6)))) (pureE (.str [100, 101, 101, 112])) (pureE .non))))
def G_law_flaw : Stm := (seqS G_law_flaw_s1 (seqS G_law_flaw_s2 G_law_flaw_s3))
def S_law_flaw : Fn := mkT 1 G_law_flaw
theorem der__law_flaw {C : Com} (w : Wd C) {k : Nat} (hk : 41 ≤ k) : SSs C N__law_flaw (defScope (top 20)) k (defBody (top 20)) G_law_flaw :=
(SSs.cons
(SS.ite (SB.not (SB.ofE (SE.fn (ok__law_is_built w 40) (Nat.le_trans (by decide) hk) (SAs.cons (SA.var (i := 0) (by kernel_rfl) (by kernel_rfl) (by kernel_rfl) (by kernel_rfl)) SAs.nil (fun _ => rfl)) (by kernel_rfl) (by kernel_rfl) (fun _ => rfl) (fun _ => rfl)) (fun _ _ => rfl))) (SSs.one
(SS.ret (SA.ev (SA.str (l := [102, 111, 114, 109]) (by kernel_rfl))))) SSs.nil)
(SSs.cons
(SS.ite (SB.gt (SE.frz (SE.fn (ok__law_parts w 40) (Nat.le_trans (by decide) hk) (SAs.cons (SA.var (i := 0) (by kernel_rfl) (by kernel_rfl) (by kernel_rfl) (by kernel_rfl)) SAs.nil (fun _ => rfl)) (by kernel_rfl) (by kernel_rfl) (fun _ => rfl) (fun _ => rfl))) SA.int (nomark _)) (SSs.one
(SS.ret (SA.ev (SA.str (l := [109, 97, 110, 121]) (by kernel_rfl))))) SSs.nil)
(SSs.one
(SS.ret (SA.ev (SA.ife (SB.gt (SE.frz (SE.fn (ok__law_deep w 40) (Nat.le_trans (by decide) hk) (SAs.cons (SA.var (i := 0) (by kernel_rfl) (by kernel_rfl) (by kernel_rfl) (by kernel_rfl)) SAs.nil (fun _ => rfl)) (by kernel_rfl) (by kernel_rfl) (fun _ => rfl) (fun _ => rfl))) SA.int (nomark _)) (SA.str (l := [100, 101, 101, 112]) (by kernel_rfl)) SA.non))))))
theorem ok__law_flaw {C : Com} (w : Wd C) : Ok C "_law_flaw" ["_law_thing"] 42 S_law_flaw := w.f__law_flaw.t (N := N__law_flaw) (ps := ["_law_thing"]) (k := 41) (by kernel_rfl) (fun _ _ _ _ _ _ us hl => match us, hl with | [_], _ => rfl) (der__law_flaw w (Nat.le_refl _))

/-! _law_put_in -/
def N__law_put_in : List Str := ["_law_thing", "_law_place", "_law_odd", "_law_many", "_law_at", "_law_inner"]
def G_law_put_in_s1 (self : Fn) : Stm := (ifS (orB (boolR (e2 (eqF false) (getV 1) (pureE (.int 0)))) (orB (notB (boolR (e1 (isiF .tup) (getV 0)))) (orB (boolR (e2 (d2 ltD) (frzE (eL lenF (consE (getV 0) nilE))) (pureE (.int 2)))) (boolR (e2 (eqF false) (frzE (e2 ixF (getV 0) (pureE (.int 0)))) (pureE (.str [98, 101, 97, 100]))))))) (retS (seE (getV 2))) nxS)
def G_law_put_in_s2 (self : Fn) : Stm := (setS 3 (frzE (e2 (d2 subD) (frzE (eL lenF (consE (getV 0) nilE))) (pureE (.int 1)))))
def G_law_put_in_s3 (self : Fn) : Stm := (setS 4 (frzE (e2 addF (pureE (.int 1)) (frzE (e2 (d2 modD) (frzE (e2 (d2 subD) (getV 1) (pureE (.int 1)))) (getV 3))))))
def G_law_put_in_s4 (self : Fn) : Stm := (setS 5 (frzE (callE self 3 [] (consE (frzE (e2 ixF (getV 0) (getV 4))) (consE (frzE (e2 (d2 divD) (frzE (e2 (d2 subD) (getV 1) (pureE (.int 1)))) (getV 3))) (consE (getV 2) nilE))))))
def G_law_put_in_s5 (self : Fn) : Stm := (retS (e2 addF (frzE (e2 addF (frzE (eS slF (getV 0) noPart (intPart (getV 4)))) (frzE (tupE (consE (getV 5) nilE))))) (frzE (eS slF (getV 0) (intPart (frzE (e2 addF (getV 4) (pureE (.int 1))))) noPart))))
def G_law_put_in (self : Fn) : Stm := (seqS (G_law_put_in_s1 self) (seqS (G_law_put_in_s2 self) (seqS (G_law_put_in_s3 self) (seqS (G_law_put_in_s4 self) (G_law_put_in_s5 self)))))
def S_law_put_in : Nat → Fn
  | 0 => mkT 6 noS
  | i + 1 => mkT 6 (G_law_put_in (S_law_put_in i))
theorem der__law_put_in {C : Com} (w : Wd C) {k j : Nat} (hk : 0 ≤ k) {self : Fn} (hs : Ok C "_law_put_in" ["_law_thing", "_law_place", "_law_odd"] j self) (hj : j ≤ k) : SSs C N__law_put_in (defScope (top 21)) k (defBody (top 21)) (G_law_put_in self) :=
(SSs.cons
(SS.ite (SW.sb (SW.or (SB.eq (SA.var (i := 1) (by kernel_rfl) (by kernel_rfl) (by kernel_rfl) (by kernel_rfl)) SA.int (nomark _)) (SW.or (SB.not (SB.ofE (SE.isa (T := .tup) (glo_isinstance w (by kernel_rfl)) (glo_tuple w (by kernel_rfl)) (SA.var (i := 0) (by kernel_rfl) (by kernel_rfl) (by kernel_rfl) (by kernel_rfl)) ⟨fun _ => rfl, fun _ => rfl⟩ (fun _ => rfl)) (fun _ _ => rfl))) (SW.or (SB.lt (SE.frz (SE.len (glo_len w (by kernel_rfl)) ⟨fun _ => rfl, fun _ => rfl⟩ (SAs.cons (SA.var (i := 0) (by kernel_rfl) (by kernel_rfl) (by kernel_rfl) (by kernel_rfl)) SAs.nil (fun _ => rfl)))) SA.int (nomark _)) (SW.or1 (SB.eq (SE.frz (SE.index (SA.var (i := 0) (by kernel_rfl) (by kernel_rfl) (by kernel_rfl) (by kernel_rfl)) SA.int (fun _ _ => rfl))) (SA.str (l := [98, 101, 97, 100]) (by kernel_rfl)) (nomark _))))))) (SSs.one
(SS.ret (SA.ev (SA.var (i := 2) (by kernel_rfl) (by kernel_rfl) (by kernel_rfl) (by kernel_rfl))))) SSs.nil)
(SSs.cons
(SS.set (i := 3) (by kernel_rfl) (by kernel_rfl) (SE.frz (SE.sub (SE.frz (SE.len (glo_len w (by kernel_rfl)) ⟨fun _ => rfl, fun _ => rfl⟩ (SAs.cons (SA.var (i := 0) (by kernel_rfl) (by kernel_rfl) (by kernel_rfl) (by kernel_rfl)) SAs.nil (fun _ => rfl)))) SA.int)) (fun _ => rfl))
(SSs.cons
(SS.set (i := 4) (by kernel_rfl) (by kernel_rfl) (SE.frz (SE.add SA.int (SE.frz (SE.mod (SE.frz (SE.sub (SA.var (i := 1) (by kernel_rfl) (by kernel_rfl) (by kernel_rfl) (by kernel_rfl)) SA.int)) (SA.var (i := 3) (by kernel_rfl) (by kernel_rfl) (by kernel_rfl) (by kernel_rfl)))))) (fun _ => rfl))
(SSs.cons
(SS.set (i := 5) (by kernel_rfl) (by kernel_rfl) (SE.frz (SE.fn hs hj (SAs.cons (SE.frz (SE.index (SA.var (i := 0) (by kernel_rfl) (by kernel_rfl) (by kernel_rfl) (by kernel_rfl)) (SA.var (i := 4) (by kernel_rfl) (by kernel_rfl) (by kernel_rfl) (by kernel_rfl)) (fun _ _ => rfl))) (SAs.cons (SE.frz (SE.div (SE.frz (SE.sub (SA.var (i := 1) (by kernel_rfl) (by kernel_rfl) (by kernel_rfl) (by kernel_rfl)) SA.int)) (SA.var (i := 3) (by kernel_rfl) (by kernel_rfl) (by kernel_rfl) (by kernel_rfl)))) (SAs.cons (SA.var (i := 2) (by kernel_rfl) (by kernel_rfl) (by kernel_rfl) (by kernel_rfl)) SAs.nil (fun _ => rfl)) (fun _ => rfl)) (fun _ => rfl)) (by kernel_rfl) (by kernel_rfl) (fun _ => rfl) (fun _ => rfl))) (fun _ => rfl))
(SSs.one
(SS.ret (SE.add (SE.frz (SE.add (SE.frz (SE.slice (SA.var (i := 0) (by kernel_rfl) (by kernel_rfl) (by kernel_rfl) (by kernel_rfl)) SP.none (SP.some (SA.var (i := 4) (by kernel_rfl) (by kernel_rfl) (by kernel_rfl) (by kernel_rfl))))) (SE.frz (SE.tup (SAs.cons (SA.var (i := 5) (by kernel_rfl) (by kernel_rfl) (by kernel_rfl) (by kernel_rfl)) SAs.nil (fun _ => rfl)))))) (SE.frz (SE.slice (SA.var (i := 0) (by kernel_rfl) (by kernel_rfl) (by kernel_rfl) (by kernel_rfl)) (SP.some (SE.frz (SE.add (SA.var (i := 4) (by kernel_rfl) (by kernel_rfl) (by kernel_rfl) (by kernel_rfl)) SA.int))) SP.none)))))))))
theorem ok__law_put_in {C : Com} (w : Wd C) : ∀ n : Nat, Ok C "_law_put_in" ["_law_thing", "_law_place", "_law_odd"] (0 + 1 + n) (S_law_put_in n)
  | 0 => w.f__law_put_in.t (N := N__law_put_in) (ps := ["_law_thing", "_law_place", "_law_odd"]) (k := 0) (by kernel_rfl) (fun _ _ _ _ _ _ us hl => match us, hl with | [_, _, _], _ => rfl) SSs.no
  | n + 1 => w.f__law_put_in.t (N := N__law_put_in) (ps := ["_law_thing", "_law_place", "_law_odd"]) (k := 0 + 1 + n) (by kernel_rfl) (fun _ _ _ _ _ _ us hl => match us, hl with | [_, _, _], _ => rfl) (der__law_put_in w (by omega) (ok__law_put_in w n) (Nat.le_refl _))

/-! _law_odd_thing -/
def N__law_odd_thing : List Str := ["_law_draw", "_law_none", "_law_some"]
def G_law_odd_thing_s1 : Stm := (setS 1 (frzE (tupE (consE (pureE (.str [101, 109, 112, 116, 121])) nilE))))
def G_law_odd_thing_s2 : Stm := (ownS 2 (lstE (consE (frzE (tupE (consE (pureE (.str [101, 109, 112, 116, 121])) (consE (pureE (.str [97])) nilE)))) (consE (frzE (tupE (consE (pureE (.str [98, 101, 97, 100])) nilE))) (consE (frzE (tupE (consE (pureE (.str [98, 101, 97, 100])) (consE (pureE (.str [65])) nilE)))) nilE)))))
def G_law_odd_thing_s3 : Stm := (ownS 2 (e2 addF (getV 2) (frzE (lstE (consE (frzE (tupE (consE (pureE (.str [98, 101, 97, 100])) (consE (pureE (.str [97, 98])) nilE)))) (consE (frzE (tupE (consE (pureE (.str [98, 101, 97, 100])) (consE (pureE (.str [])) nilE)))) nilE))))))
def G_law_odd_thing_s4 : Stm := (dropS (eMt isLstA appF (getV 2) (consE (frzE (tupE (consE (pureE (.str [116, 104, 101, 110])) (consE (getV 1) nilE)))) nilE)))
def G_law_odd_thing_s5 : Stm := (ownS 2 (e2 addF (getV 2) (frzE (lstE (consE (frzE (tupE (consE (pureE (.str [111, 114])) (consE (pureE (.str [97])) (consE (pureE (.str [98])) nilE))))) (consE (frzE (tupE nilE)) (consE (frzE (tupE (consE (pureE (.str [110, 111, 110, 101])) nilE))) nilE)))))))
def G_law_odd_thing_s6 : Stm := (ownS 2 (e2 addF (getV 2) (frzE (lstE (consE (frzE (tupE (consE (pureE (.str [97, 103, 97, 105, 110])) (consE (frzE (tupE (consE (pureE (.str [98, 101, 97, 100])) (consE (pureE (.str [98])) nilE)))) (consE (getV 1) nilE))))) nilE)))))
def G_law_odd_thing_s7 : Stm := (ownS 2 (e2 addF (getV 2) (frzE (lstE (consE (pureE (.str [97])) (consE (pureE (.str [101, 109, 112, 116, 121])) (consE (frzE (tupE (consE (pureE (.str [98, 101, 97, 100])) (consE (frzE (tupE (consE (pureE (.str [98, 101, 97, 100])) (consE (pureE (.str [97])) nilE)))) nilE)))) nilE)))))))
def G_law_odd_thing_s8 : Stm := (ownS 2 (e2 addF (getV 2) (frzE (lstE (consE (frzE (tupE (consE (pureE (.str [97, 103, 97, 105, 110])) nilE))) (consE (frzE (tupE (consE (pureE (.str [69, 109, 112, 116, 121])) nilE))) nilE))))))
def G_law_odd_thing_s9 : Stm := (dropS (eMt isLstA appF (getV 2) (consE (frzE (tupE (consE (pureE (.str [116, 104, 101, 110])) (consE (getV 1) (consE (getV 1) (consE (getV 1) nilE)))))) nilE)))
def G_law_odd_thing_s10 : Stm := (dropS (eMt isLstA appF (getV 2) (consE (frzE (tupE (consE (pureE (.str [101, 109, 112, 116, 121])) (consE (getV 1) nilE)))) nilE)))
def G_law_odd_thing_s11 : Stm := (retS (e2 ixF (getV 2) (frzE (callE S_law_pull 2 [] (consE (getV 0) (consE (frzE (eL lenF (consE (getV 2) nilE))) nilE))))))
def G_law_odd_thing : Stm := (seqS G_law_odd_thing_s1 (seqS G_law_odd_thing_s2 (seqS G_law_odd_thing_s3 (seqS G_law_odd_thing_s4 (seqS G_law_odd_thing_s5 (seqS G_law_odd_thing_s6 (seqS G_law_odd_thing_s7 (seqS G_law_odd_thing_s8 (seqS G_law_odd_thing_s9 (seqS G_law_odd_thing_s10 G_law_odd_thing_s11))))))))))
def S_law_odd_thing : Fn := mkT 3 G_law_odd_thing
theorem der__law_odd_thing {C : Com} (w : Wd C) {k : Nat} (hk : 1 ≤ k) : SSs C N__law_odd_thing (defScope (top 22)) k (defBody (top 22)) G_law_odd_thing :=
(SSs.cons
(SS.set (i := 1) (by kernel_rfl) (by kernel_rfl) (SE.frz (SE.tup (SAs.cons (SA.str (l := [101, 109, 112, 116, 121]) (by kernel_rfl)) SAs.nil (fun _ => rfl)))) (fun _ => rfl))
(SSs.cons
(SS.own (i := 2) (by kernel_rfl) (by kernel_rfl) (SE.lst (SAs.cons (SE.frz (SE.tup (SAs.cons (SA.str (l := [101, 109, 112, 116, 121]) (by kernel_rfl)) (SAs.cons (SA.str (l := [97]) (by kernel_rfl)) SAs.nil (fun _ => rfl)) (fun _ => rfl)))) (SAs.cons (SE.frz (SE.tup (SAs.cons (SA.str (l := [98, 101, 97, 100]) (by kernel_rfl)) SAs.nil (fun _ => rfl)))) (SAs.cons (SE.frz (SE.tup (SAs.cons (SA.str (l := [98, 101, 97, 100]) (by kernel_rfl)) (SAs.cons (SA.str (l := [65]) (by kernel_rfl)) SAs.nil (fun _ => rfl)) (fun _ => rfl)))) SAs.nil (fun _ => rfl)) (fun _ => rfl)) (fun _ => rfl))) (fun _ => rfl))
(SSs.cons
(SS.own (i := 2) (by kernel_rfl) (by kernel_rfl) (SE.add (SA.var (i := 2) (by kernel_rfl) (by kernel_rfl) (by kernel_rfl) (by kernel_rfl)) (SE.frz (SE.lst (SAs.cons (SE.frz (SE.tup (SAs.cons (SA.str (l := [98, 101, 97, 100]) (by kernel_rfl)) (SAs.cons (SA.str (l := [97, 98]) (by kernel_rfl)) SAs.nil (fun _ => rfl)) (fun _ => rfl)))) (SAs.cons (SE.frz (SE.tup (SAs.cons (SA.str (l := [98, 101, 97, 100]) (by kernel_rfl)) (SAs.cons (SA.str (l := []) (by kernel_rfl)) SAs.nil (fun _ => rfl)) (fun _ => rfl)))) SAs.nil (fun _ => rfl)) (fun _ => rfl))))) (fun _ => rfl))
(SSs.cons
(SS.drop (SE.append ⟨fun _ => rfl, fun _ => rfl, by kernel_rfl⟩ ⟨fun _ => rfl, fun _ => rfl⟩ (SA.var (i := 2) (by kernel_rfl) (by kernel_rfl) (by kernel_rfl) (by kernel_rfl)) (SAs.cons (SE.frz (SE.tup (SAs.cons (SA.str (l := [116, 104, 101, 110]) (by kernel_rfl)) (SAs.cons (SA.var (i := 1) (by kernel_rfl) (by kernel_rfl) (by kernel_rfl) (by kernel_rfl)) SAs.nil (fun _ => rfl)) (fun _ => rfl)))) SAs.nil (fun _ => rfl))) (fun _ => rfl))
(SSs.cons
(SS.own (i := 2) (by kernel_rfl) (by kernel_rfl) (SE.add (SA.var (i := 2) (by kernel_rfl) (by kernel_rfl) (by kernel_rfl) (by kernel_rfl)) (SE.frz (SE.lst (SAs.cons (SE.frz (SE.tup (SAs.cons (SA.str (l := [111, 114]) (by kernel_rfl)) (SAs.cons (SA.str (l := [97]) (by kernel_rfl)) (SAs.cons (SA.str (l := [98]) (by kernel_rfl)) SAs.nil (fun _ => rfl)) (fun _ => rfl)) (fun _ => rfl)))) (SAs.cons (SE.frz (SE.tup SAs.nil)) (SAs.cons (SE.frz (SE.tup (SAs.cons (SA.str (l := [110, 111, 110, 101]) (by kernel_rfl)) SAs.nil (fun _ => rfl)))) SAs.nil (fun _ => rfl)) (fun _ => rfl)) (fun _ => rfl))))) (fun _ => rfl))
(SSs.cons
(SS.own (i := 2) (by kernel_rfl) (by kernel_rfl) (SE.add (SA.var (i := 2) (by kernel_rfl) (by kernel_rfl) (by kernel_rfl) (by kernel_rfl)) (SE.frz (SE.lst (SAs.cons (SE.frz (SE.tup (SAs.cons (SA.str (l := [97, 103, 97, 105, 110]) (by kernel_rfl)) (SAs.cons (SE.frz (SE.tup (SAs.cons (SA.str (l := [98, 101, 97, 100]) (by kernel_rfl)) (SAs.cons (SA.str (l := [98]) (by kernel_rfl)) SAs.nil (fun _ => rfl)) (fun _ => rfl)))) (SAs.cons (SA.var (i := 1) (by kernel_rfl) (by kernel_rfl) (by kernel_rfl) (by kernel_rfl)) SAs.nil (fun _ => rfl)) (fun _ => rfl)) (fun _ => rfl)))) SAs.nil (fun _ => rfl))))) (fun _ => rfl))
(SSs.cons
(SS.own (i := 2) (by kernel_rfl) (by kernel_rfl) (SE.add (SA.var (i := 2) (by kernel_rfl) (by kernel_rfl) (by kernel_rfl) (by kernel_rfl)) (SE.frz (SE.lst (SAs.cons (SA.str (l := [97]) (by kernel_rfl)) (SAs.cons (SA.str (l := [101, 109, 112, 116, 121]) (by kernel_rfl)) (SAs.cons (SE.frz (SE.tup (SAs.cons (SA.str (l := [98, 101, 97, 100]) (by kernel_rfl)) (SAs.cons (SE.frz (SE.tup (SAs.cons (SA.str (l := [98, 101, 97, 100]) (by kernel_rfl)) (SAs.cons (SA.str (l := [97]) (by kernel_rfl)) SAs.nil (fun _ => rfl)) (fun _ => rfl)))) SAs.nil (fun _ => rfl)) (fun _ => rfl)))) SAs.nil (fun _ => rfl)) (fun _ => rfl)) (fun _ => rfl))))) (fun _ => rfl))
(SSs.cons
(SS.own (i := 2) (by kernel_rfl) (by kernel_rfl) (SE.add (SA.var (i := 2) (by kernel_rfl) (by kernel_rfl) (by kernel_rfl) (by kernel_rfl)) (SE.frz (SE.lst (SAs.cons (SE.frz (SE.tup (SAs.cons (SA.str (l := [97, 103, 97, 105, 110]) (by kernel_rfl)) SAs.nil (fun _ => rfl)))) (SAs.cons (SE.frz (SE.tup (SAs.cons (SA.str (l := [69, 109, 112, 116, 121]) (by kernel_rfl)) SAs.nil (fun _ => rfl)))) SAs.nil (fun _ => rfl)) (fun _ => rfl))))) (fun _ => rfl))
(SSs.cons
(SS.drop (SE.append ⟨fun _ => rfl, fun _ => rfl, by kernel_rfl⟩ ⟨fun _ => rfl, fun _ => rfl⟩ (SA.var (i := 2) (by kernel_rfl) (by kernel_rfl) (by kernel_rfl) (by kernel_rfl)) (SAs.cons (SE.frz (SE.tup (SAs.cons (SA.str (l := [116, 104, 101, 110]) (by kernel_rfl)) (SAs.cons (SA.var (i := 1) (by kernel_rfl) (by kernel_rfl) (by kernel_rfl) (by kernel_rfl)) (SAs.cons (SA.var (i := 1) (by kernel_rfl) (by kernel_rfl) (by kernel_rfl) (by kernel_rfl)) (SAs.cons (SA.var (i := 1) (by kernel_rfl) (by kernel_rfl) (by kernel_rfl) (by kernel_rfl)) SAs.nil (fun _ => rfl)) (fun _ => rfl)) (fun _ => rfl)) (fun _ => rfl)))) SAs.nil (fun _ => rfl))) (fun _ => rfl))
(SSs.cons
(SS.drop (SE.append ⟨fun _ => rfl, fun _ => rfl, by kernel_rfl⟩ ⟨fun _ => rfl, fun _ => rfl⟩ (SA.var (i := 2) (by kernel_rfl) (by kernel_rfl) (by kernel_rfl) (by kernel_rfl)) (SAs.cons (SE.frz (SE.tup (SAs.cons (SA.str (l := [101, 109, 112, 116, 121]) (by kernel_rfl)) (SAs.cons (SA.var (i := 1) (by kernel_rfl) (by kernel_rfl) (by kernel_rfl) (by kernel_rfl)) SAs.nil (fun _ => rfl)) (fun _ => rfl)))) SAs.nil (fun _ => rfl))) (fun _ => rfl))
(SSs.one
(SS.ret (SE.index (SA.var (i := 2) (by kernel_rfl) (by kernel_rfl) (by kernel_rfl) (by kernel_rfl)) (SE.frz (SE.fn (ok__law_pull w) (Nat.le_trans (by decide) hk) (SAs.cons (SA.var (i := 0) (by kernel_rfl) (by kernel_rfl) (by kernel_rfl) (by kernel_rfl)) (SAs.cons (SE.frz (SE.len (glo_len w (by kernel_rfl)) ⟨fun _ => rfl, fun _ => rfl⟩ (SAs.cons (SA.var (i := 2) (by kernel_rfl) (by kernel_rfl) (by kernel_rfl) (by kernel_rfl)) SAs.nil (fun _ => rfl)))) SAs.nil (fun _ => rfl)) (fun _ => rfl)) (by kernel_rfl) (by kernel_rfl) (fun _ => rfl) (fun _ => rfl))) (fun _ _ => rfl))))))))))))))
theorem ok__law_odd_thing {C : Com} (w : Wd C) : Ok C "_law_odd_thing" ["_law_draw"] 2 S_law_odd_thing := w.f__law_odd_thing.t (N := N__law_odd_thing) (ps := ["_law_draw"]) (k := 1) (by kernel_rfl) (fun _ _ _ _ _ _ us hl => match us, hl with | [_], _ => rfl) (der__law_odd_thing w (Nat.le_refl _))

/-! law -/
def N_law : List Str := ["_law_script", "_law_draw", "_law_turn", "_law_thing", "_law_way", "_law_step"]
def G_law_s1 : Stm := (boxS 1 (callE S_law_open 1 [] (consE (getV 0) nilE)))
def G_law_l1 : Stm :=
(setS 3 (frzE (tupE (consE (pureE (.str [97, 103, 97, 105, 110])) (consE (getV 3) nilE)))))
def G_law_l2_s1 : Stm := (setS 3 (frzE (callE (S_law_pattern 40) 3 [] (consE (getV 1) (consE (frzE (callE S_law_letters 2 [] (consE (getV 1) (consE (pureE (.int 3)) nilE)))) (consE (frzE (e2 ixF (frzE (lstE (consE (pureE (.int 4)) (consE (pureE (.int 9)) (consE (pureE (.int 16)) (consE (pureE (.int 18)) nilE)))))) (frzE (callE S_law_pull 2 [] (consE (getV 1) (consE (pureE (.int 4)) nilE)))))) nilE))))))
def G_law_l2_s2 : Stm := (setS 4 (frzE (callE S_law_pull 2 [] (consE (getV 1) (consE (pureE (.int 6)) nilE)))))
def G_law_l2_s3 : Stm := (ifS (boolR (e2 (eqF false) (getV 4) (pureE (.int 0)))) (forS (rng1 (consE (frzE (e2 addF (pureE (.int 4)) (frzE (callE S_law_pull 2 [] (consE (getV 1) (consE (pureE (.int 9)) nilE)))))) nilE)) (nameB 5) G_law_l1) nxS)
def G_law_l2_s4 : Stm := (ifS (boolR (e2 (eqF false) (getV 4) (pureE (.int 1)))) (setS 3 (frzE (tupE (consE (pureE (.str [116, 104, 101, 110])) (consE (getV 3) (consE (frzE (tupE (consE (pureE (.str [111, 114])) (consE (getV 3) (consE (frzE (tupE (consE (pureE (.str [101, 109, 112, 116, 121])) nilE))) nilE))))) nilE)))))) nxS)
def G_law_l2_s5 : Stm := (ifS (boolR (e2 (eqF false) (frzE (callE S_law_pull 2 [] (consE (getV 1) (consE (pureE (.int 3)) nilE)))) (pureE (.int 0)))) (setS 3 (frzE (callE (S_law_put_in 40) 3 [] (consE (getV 3) (consE (frzE (callE S_law_pull 2 [] (consE (getV 1) (consE (pureE (.int 60)) nilE)))) (consE (frzE (callE S_law_odd_thing 1 [] (consE (getV 1) nilE))) nilE)))))) nxS)
def G_law_l2_s6 : Stm := (ifS (notB (boolR (callE (S_law_like 40) 2 [] (consE (frzE (lstE (consE (frzE (callE S_flaw 1 [] (consE (getV 3) nilE))) (consE (frzE (callE S_flaw 1 [] (consE (getV 3) nilE))) nilE)))) (consE (frzE (e2 mulF (frzE (lstE (consE (frzE (callE S_law_flaw 1 [] (consE (getV 3) nilE))) nilE))) (pureE (.int 2)))) nilE))))) (retS (seE (pureE (.bl false)))) nxS)
def G_law_l2 : Stm :=
(seqS G_law_l2_s1 (seqS G_law_l2_s2 (seqS G_law_l2_s3 (seqS G_law_l2_s4 (seqS G_law_l2_s5 G_law_l2_s6)))))
def G_law_s2 : Stm := (forS (rng1 (consE (pureE (.int 6)) nilE)) (nameB 2) G_law_l2)
def G_law_l3 : Stm :=
(ifS (notB (boolR (callE (S_law_like 40) 2 [] (consE (frzE (callE S_flaw 1 [] (consE (getV 3) nilE))) (consE (ifE (boolR (e2 (eqF false) (getV 3) (frzE (tupE (consE (pureE (.str [98, 101, 97, 100])) (consE (pureE (.str [107])) nilE)))))) (pureE .non) (pureE (.str [102, 111, 114, 109]))) nilE))))) (retS (seE (pureE (.bl false)))) nxS)
def G_law_s3 : Stm := (forS (itE (frzE (tupE (consE (pureE (.int 3)) (consE (pureE (.str [])) (consE (pureE (.str [101, 109, 112, 116, 121])) (consE (frzE (tupE nilE)) (consE (frzE (e1 negF (pureE (.int 1)))) (consE (frzE (tupE (consE (pureE (.str [98, 101, 97, 100])) (consE (pureE (.str [107])) nilE)))) nilE))))))))) (nameB 3) G_law_l3)
def G_law_s4 : Stm := (retS (seE (bandE (frzE (e2 (eqF false) (pureE (.int 16)) (pureE (.int 16)))) (frzE (e2 (eqF false) (pureE (.int 6)) (pureE (.int 6)))))))
def G_law : Stm := (seqS G_law_s1 (seqS G_law_s2 (seqS G_law_s3 G_law_s4)))
def S_law : Fn := mkT 6 G_law
theorem der_law {C : Com} (w : Wd C) {k : Nat} (hk : 43 ≤ k) : SSs C N_law (defScope (top 23)) k (defBody (top 23)) G_law :=
(SSs.cons
(SS.box (i := 1) (by kernel_rfl) (by kernel_rfl) (SE.fn (ok__law_open w) (Nat.le_trans (by decide) hk) (SAs.cons (SA.var (i := 0) (by kernel_rfl) (by kernel_rfl) (by kernel_rfl) (by kernel_rfl)) SAs.nil (fun _ => rfl)) (by kernel_rfl) (by kernel_rfl) (fun _ => rfl) (fun _ => rfl)) (fun _ => rfl))
(SSs.cons
(SS.for (SI.range1 (by kernel_rfl) w.n_range (SAs.cons SA.int SAs.nil (fun _ => rfl)) (fun _ => rfl)) (SG.name (i := 2) (by kernel_rfl) (by kernel_rfl)) (SSs.cons
(SS.set (i := 3) (by kernel_rfl) (by kernel_rfl) (SE.frz (SE.fn (ok__law_pattern w 40) (Nat.le_trans (by decide) hk) (SAs.cons (SA.var (i := 1) (by kernel_rfl) (by kernel_rfl) (by kernel_rfl) (by kernel_rfl)) (SAs.cons (SE.frz (SE.fn (ok__law_letters w) (Nat.le_trans (by decide) hk) (SAs.cons (SA.var (i := 1) (by kernel_rfl) (by kernel_rfl) (by kernel_rfl) (by kernel_rfl)) (SAs.cons SA.int SAs.nil (fun _ => rfl)) (fun _ => rfl)) (by kernel_rfl) (by kernel_rfl) (fun _ => rfl) (fun _ => rfl))) (SAs.cons (SE.frz (SE.index (SE.frz (SE.lst (SAs.cons SA.int (SAs.cons SA.int (SAs.cons SA.int (SAs.cons SA.int SAs.nil (fun _ => rfl)) (fun _ => rfl)) (fun _ => rfl)) (fun _ => rfl)))) (SE.frz (SE.fn (ok__law_pull w) (Nat.le_trans (by decide) hk) (SAs.cons (SA.var (i := 1) (by kernel_rfl) (by kernel_rfl) (by kernel_rfl) (by kernel_rfl)) (SAs.cons SA.int SAs.nil (fun _ => rfl)) (fun _ => rfl)) (by kernel_rfl) (by kernel_rfl) (fun _ => rfl) (fun _ => rfl))) (fun _ _ => rfl))) SAs.nil (fun _ => rfl)) (fun _ => rfl)) (fun _ => rfl)) (by kernel_rfl) (by kernel_rfl) (fun _ => rfl) (fun _ => rfl))) (fun _ => rfl))
(SSs.cons
(SS.set (i := 4) (by kernel_rfl) (by kernel_rfl) (SE.frz (SE.fn (ok__law_pull w) (Nat.le_trans (by decide) hk) (SAs.cons (SA.var (i := 1) (by kernel_rfl) (by kernel_rfl) (by kernel_rfl) (by kernel_rfl)) (SAs.cons SA.int SAs.nil (fun _ => rfl)) (fun _ => rfl)) (by kernel_rfl) (by kernel_rfl) (fun _ => rfl) (fun _ => rfl))) (fun _ => rfl))
(SSs.cons
(SS.ite (SB.eq (SA.var (i := 4) (by kernel_rfl) (by kernel_rfl) (by kernel_rfl) (by kernel_rfl)) SA.int (nomark _)) (SSs.one
(SS.for (SI.range1 (by kernel_rfl) w.n_range (SAs.cons (SE.frz (SE.add SA.int (SE.frz (SE.fn (ok__law_pull w) (Nat.le_trans (by decide) hk) (SAs.cons (SA.var (i := 1) (by kernel_rfl) (by kernel_rfl) (by kernel_rfl) (by kernel_rfl)) (SAs.cons SA.int SAs.nil (fun _ => rfl)) (fun _ => rfl)) (by kernel_rfl) (by kernel_rfl) (fun _ => rfl) (fun _ => rfl))))) SAs.nil (fun _ => rfl)) (fun _ => rfl)) (SG.name (i := 5) (by kernel_rfl) (by kernel_rfl)) (SSs.one
(SS.set (i := 3) (by kernel_rfl) (by kernel_rfl) (SE.frz (SE.tup (SAs.cons (SA.str (l := [97, 103, 97, 105, 110]) (by kernel_rfl)) (SAs.cons (SA.var (i := 3) (by kernel_rfl) (by kernel_rfl) (by kernel_rfl) (by kernel_rfl)) SAs.nil (fun _ => rfl)) (fun _ => rfl)))) (fun _ => rfl))) (fun _ _ => rfl))) SSs.nil)
(SSs.cons
(SS.ite (SB.eq (SA.var (i := 4) (by kernel_rfl) (by kernel_rfl) (by kernel_rfl) (by kernel_rfl)) SA.int (nomark _)) (SSs.one
(SS.set (i := 3) (by kernel_rfl) (by kernel_rfl) (SE.frz (SE.tup (SAs.cons (SA.str (l := [116, 104, 101, 110]) (by kernel_rfl)) (SAs.cons (SA.var (i := 3) (by kernel_rfl) (by kernel_rfl) (by kernel_rfl) (by kernel_rfl)) (SAs.cons (SE.frz (SE.tup (SAs.cons (SA.str (l := [111, 114]) (by kernel_rfl)) (SAs.cons (SA.var (i := 3) (by kernel_rfl) (by kernel_rfl) (by kernel_rfl) (by kernel_rfl)) (SAs.cons (SE.frz (SE.tup (SAs.cons (SA.str (l := [101, 109, 112, 116, 121]) (by kernel_rfl)) SAs.nil (fun _ => rfl)))) SAs.nil (fun _ => rfl)) (fun _ => rfl)) (fun _ => rfl)))) SAs.nil (fun _ => rfl)) (fun _ => rfl)) (fun _ => rfl)))) (fun _ => rfl))) SSs.nil)
(SSs.cons
(SS.ite (SB.eq (SE.frz (SE.fn (ok__law_pull w) (Nat.le_trans (by decide) hk) (SAs.cons (SA.var (i := 1) (by kernel_rfl) (by kernel_rfl) (by kernel_rfl) (by kernel_rfl)) (SAs.cons SA.int SAs.nil (fun _ => rfl)) (fun _ => rfl)) (by kernel_rfl) (by kernel_rfl) (fun _ => rfl) (fun _ => rfl))) SA.int (nomark _)) (SSs.one
(SS.set (i := 3) (by kernel_rfl) (by kernel_rfl) (SE.frz (SE.fn (ok__law_put_in w 40) (Nat.le_trans (by decide) hk) (SAs.cons (SA.var (i := 3) (by kernel_rfl) (by kernel_rfl) (by kernel_rfl) (by kernel_rfl)) (SAs.cons (SE.frz (SE.fn (ok__law_pull w) (Nat.le_trans (by decide) hk) (SAs.cons (SA.var (i := 1) (by kernel_rfl) (by kernel_rfl) (by kernel_rfl) (by kernel_rfl)) (SAs.cons SA.int SAs.nil (fun _ => rfl)) (fun _ => rfl)) (by kernel_rfl) (by kernel_rfl) (fun _ => rfl) (fun _ => rfl))) (SAs.cons (SE.frz (SE.fn (ok__law_odd_thing w) (Nat.le_trans (by decide) hk) (SAs.cons (SA.var (i := 1) (by kernel_rfl) (by kernel_rfl) (by kernel_rfl) (by kernel_rfl)) SAs.nil (fun _ => rfl)) (by kernel_rfl) (by kernel_rfl) (fun _ => rfl) (fun _ => rfl))) SAs.nil (fun _ => rfl)) (fun _ => rfl)) (fun _ => rfl)) (by kernel_rfl) (by kernel_rfl) (fun _ => rfl) (fun _ => rfl))) (fun _ => rfl))) SSs.nil)
(SSs.one
(SS.ite (SB.not (SB.ofE (SE.fn (ok__law_like w 40) (Nat.le_trans (by decide) hk) (SAs.cons (SE.frz (SE.lst (SAs.cons (SE.frz (SE.fn (ok_flaw w) (Nat.le_trans (by decide) hk) (SAs.cons (SA.var (i := 3) (by kernel_rfl) (by kernel_rfl) (by kernel_rfl) (by kernel_rfl)) SAs.nil (fun _ => rfl)) (by kernel_rfl) (by kernel_rfl) (fun _ => rfl) (fun _ => rfl))) (SAs.cons (SE.frz (SE.fn (ok_flaw w) (Nat.le_trans (by decide) hk) (SAs.cons (SA.var (i := 3) (by kernel_rfl) (by kernel_rfl) (by kernel_rfl) (by kernel_rfl)) SAs.nil (fun _ => rfl)) (by kernel_rfl) (by kernel_rfl) (fun _ => rfl) (fun _ => rfl))) SAs.nil (fun _ => rfl)) (fun _ => rfl)))) (SAs.cons (SE.frz (SE.mul (SE.frz (SE.lst (SAs.cons (SE.frz (SE.fn (ok__law_flaw w) (Nat.le_trans (by decide) hk) (SAs.cons (SA.var (i := 3) (by kernel_rfl) (by kernel_rfl) (by kernel_rfl) (by kernel_rfl)) SAs.nil (fun _ => rfl)) (by kernel_rfl) (by kernel_rfl) (fun _ => rfl) (fun _ => rfl))) SAs.nil (fun _ => rfl)))) SA.int)) SAs.nil (fun _ => rfl)) (fun _ => rfl)) (by kernel_rfl) (by kernel_rfl) (fun _ => rfl) (fun _ => rfl)) (fun _ _ => rfl))) (SSs.one
(SS.ret (SA.ev SA.bl))) SSs.nil))))))) (fun _ _ => rfl))
(SSs.cons
(SS.for (SI.any (SE.frz (SE.tup (SAs.cons SA.int (SAs.cons (SA.str (l := []) (by kernel_rfl)) (SAs.cons (SA.str (l := [101, 109, 112, 116, 121]) (by kernel_rfl)) (SAs.cons (SE.frz (SE.tup SAs.nil)) (SAs.cons (SE.frz (SE.usub SA.int)) (SAs.cons (SE.frz (SE.tup (SAs.cons (SA.str (l := [98, 101, 97, 100]) (by kernel_rfl)) (SAs.cons (SA.str (l := [107]) (by kernel_rfl)) SAs.nil (fun _ => rfl)) (fun _ => rfl)))) SAs.nil (fun _ => rfl)) (fun _ => rfl)) (fun _ => rfl)) (fun _ => rfl)) (fun _ => rfl)) (fun _ => rfl))))) (SG.name (i := 3) (by kernel_rfl) (by kernel_rfl)) (SSs.one
(SS.ite (SB.not (SB.ofE (SE.fn (ok__law_like w 40) (Nat.le_trans (by decide) hk) (SAs.cons (SE.frz (SE.fn (ok_flaw w) (Nat.le_trans (by decide) hk) (SAs.cons (SA.var (i := 3) (by kernel_rfl) (by kernel_rfl) (by kernel_rfl) (by kernel_rfl)) SAs.nil (fun _ => rfl)) (by kernel_rfl) (by kernel_rfl) (fun _ => rfl) (fun _ => rfl))) (SAs.cons (SA.ife (SB.eq (SA.var (i := 3) (by kernel_rfl) (by kernel_rfl) (by kernel_rfl) (by kernel_rfl)) (SE.frz (SE.tup (SAs.cons (SA.str (l := [98, 101, 97, 100]) (by kernel_rfl)) (SAs.cons (SA.str (l := [107]) (by kernel_rfl)) SAs.nil (fun _ => rfl)) (fun _ => rfl)))) (nomark _)) SA.non (SA.str (l := [102, 111, 114, 109]) (by kernel_rfl))) SAs.nil (fun _ => rfl)) (fun _ => rfl)) (by kernel_rfl) (by kernel_rfl) (fun _ => rfl) (fun _ => rfl)) (fun _ _ => rfl))) (SSs.one
(SS.ret (SA.ev SA.bl))) SSs.nil)) (fun _ _ => rfl))
(SSs.one
(SS.ret (SA.ev (SA.band (SE.frz (SE.eq (SA.gv w.c_MOST_PARTS (by kernel_rfl) (by kernel_rfl)) SA.int (nomark _))) (SA.bool1 (SE.frz (SE.eq (SA.gv w.c_MOST_DEEP (by kernel_rfl) (by kernel_rfl)) SA.int (nomark _)))))))))))
theorem ok_law {C : Com} (w : Wd C) : Ok C "law" ["_law_script"] 44 S_law := w.f_law.t (N := N_law) (ps := ["_law_script"]) (k := 43) (by kernel_rfl) (fun _ _ _ _ _ _ us hl => match us, hl with | [_], _ => rfl) (der_law w (Nat.le_refl _))

end Lw
end part_Lw_k22

section part_Lc1_k22
set_option Elab.async false
set_option linter.all false
set_option maxRecDepth 100000
set_option maxHeartbeats 8000000
set_option autoImplicit false
open PySem BL Lw
namespace Lm
/-! ### ints -/
theorem mul_r (a j : Int) (m : M) (h : smallI j = true) : mulF (.t (.int a)) (.t (.int j)) m = .ok (.av (.t (.int (a * j)))) m := by
  simp only [mulF, h, Bool.or_true, okD]
theorem mod_r (a j : Int) (m : M) (h : 0 < j) : d2 modD (.t (.int a)) (.t (.int j)) m = .ok (.av (.t (.int (a % j)))) m := by
  simp only [d2, modD, decide_eq_true h, okD?, okD]
theorem div_r (a j : Int) (m : M) (h : 0 < j) (h2 : j < 1073741824) : d2 divD (.t (.int a)) (.t (.int j)) m = .ok (.av (.t (.int (a / j)))) m := by
  simp only [d2, divD, decide_eq_true h, decide_eq_true h2, Bool.and_self, okD?, okD]
theorem add_r (a j : Int) (m : M) : addF (.t (.int a)) (.t (.int j)) m = .ok (.av (.t (.int (a + j)))) m := rfl
theorem sub_r (a j : Int) (m : M) : d2 subD (.t (.int a)) (.t (.int j)) m = .ok (.av (.t (.int (a - j)))) m := rfl
theorem lt_r (a j : Int) (m : M) : d2 (cmpD fun i j => decide (i < j)) (.t (.int a)) (.t (.int j)) m = .ok (.av (.t (.bl (decide (a < j))))) m := rfl
theorem le_r (a j : Int) (m : M) : d2 (cmpD fun i j => decide (i ≤ j)) (.t (.int a)) (.t (.int j)) m = .ok (.av (.t (.bl (decide (a ≤ j))))) m := rfl
theorem gt_r (a j : Int) (m : M) : d2 (cmpD fun i j => decide (j < i)) (.t (.int a)) (.t (.int j)) m = .ok (.av (.t (.bl (decide (j < a))))) m := rfl
theorem ge_r (a j : Int) (m : M) : d2 (cmpD fun i j => decide (j ≤ i)) (.t (.int a)) (.t (.int j)) m = .ok (.av (.t (.bl (decide (j ≤ a))))) m := rfl
theorem neg_r (a : Int) (m : M) : negF (.t (.int a)) m = .ok (.av (.t (.int (-a)))) m := rfl
theorem pow18 (m : M) : d2 powD (.t (.int 10)) (.t (.int 18)) m = .ok (.av (.t (.int 1000000000000000000))) m := rfl
theorem len_l (cs : List D) (m : M) : lenF [.t (.lst cs)] m = .ok (.av (.t (.int cs.length))) m := rfl
theorem len_t (cs : List D) (m : M) : lenF [.t (.tup cs)] m = .ok (.av (.t (.int cs.length))) m := rfl
/-! ### the draw -/
def draw (cs : List D) (p q s : Int) : Cell := .lst [.lst cs, .int p, .int q, .int s]
section
variable {S : List Cell} {i : Nat} (hi : i < S.length) (σ : List (Option SV)) (b : Nat) (cs : List D) (p q s v : Int)
include hi
theorem dget : (S.set i (draw cs p q s))[i]? = some (draw cs p q s) := List.getElem?_set_self hi
theorem dix (j : Int) (d : D) (h : L2.atI [D.lst cs, .int p, .int q, .int s] j = some d) : ixF (.b i) (.t (.int j)) ⟨σ, S.set i (draw cs p q s), b⟩ = .ok (.av (.t d)) ⟨σ, S.set i (draw cs p q s), b⟩ := by
  simp only [ixF, seqOf, lstOf, cellAt, dget hi, Option.bind_some]
  simp only [draw, cellL, h, okD?, okD]
theorem dix0 : ixF (.b i) (.t (.int 0)) ⟨σ, S.set i (draw cs p q s), b⟩ = .ok (.av (.t (.lst cs))) ⟨σ, S.set i (draw cs p q s), b⟩ := dix hi σ b cs p q s 0 _ rfl
theorem dix1 : ixF (.b i) (.t (.int 1)) ⟨σ, S.set i (draw cs p q s), b⟩ = .ok (.av (.t (.int p))) ⟨σ, S.set i (draw cs p q s), b⟩ := dix hi σ b cs p q s 1 _ rfl
theorem dix2 : ixF (.b i) (.t (.int 2)) ⟨σ, S.set i (draw cs p q s), b⟩ = .ok (.av (.t (.int q))) ⟨σ, S.set i (draw cs p q s), b⟩ := dix hi σ b cs p q s 2 _ rfl
theorem dix3 : ixF (.b i) (.t (.int 3)) ⟨σ, S.set i (draw cs p q s), b⟩ = .ok (.av (.t (.int s))) ⟨σ, S.set i (draw cs p q s), b⟩ := dix hi σ b cs p q s 3 _ rfl
theorem dset (j : Int) (n : Nat) (hj : L2.ixN 4 j = some n) : setLF (.b i) (.t (.int j)) (.t (.int v)) ⟨σ, S.set i (draw cs p q s), b⟩ = .ok () ⟨σ, S.set i (.lst ([D.lst cs, .int p, .int q, .int s].set n (.int v))), b⟩ := by
  have hw : wrL ⟨σ, S.set i (draw cs p q s), b⟩ (.b i) = some (.inr i, [D.lst cs, .int p, .int q, .int s]) := by
    simp only [wrL, wrAt, dget hi]
    simp only [draw]
  have hj' : L2.ixN [D.lst cs, .int p, .int q, .int s].length j = some n := hj
  simp only [setLF, hw, hj', putC, List.set_set]
theorem dset1 : setLF (.b i) (.t (.int 1)) (.t (.int v)) ⟨σ, S.set i (draw cs p q s), b⟩ = .ok () ⟨σ, S.set i (draw cs v q s), b⟩ := dset hi σ b cs p q s v 1 1 rfl
theorem dset2 : setLF (.b i) (.t (.int 2)) (.t (.int v)) ⟨σ, S.set i (draw cs p q s), b⟩ = .ok () ⟨σ, S.set i (draw cs p v s), b⟩ := dset hi σ b cs p q s v 2 2 rfl
theorem dset3 : setLF (.b i) (.t (.int 3)) (.t (.int v)) ⟨σ, S.set i (draw cs p q s), b⟩ = .ok () ⟨σ, S.set i (draw cs p q v), b⟩ := dset hi σ b cs p q s v 3 3 rfl
end
theorem atI_nat {α : Type} (xs : List α) (k : Nat) (h : k < xs.length) : L2.atI xs (k : Int) = some xs[k] := by
  unfold L2.atI L2.ixN
  rw [if_pos (by omega), if_pos (by omega)]
  simp [h]
theorem ix_l (cs : List D) (k : Int) (d : D) (m : M) (h : L2.atI cs k = some d) : ixF (.t (.lst cs)) (.t (.int k)) m = .ok (.av (.t d)) m := by
  simp only [ixF, seqOf, lstOf, h, okD?, okD]
theorem ix_t (cs : List D) (k : Int) (d : D) (m : M) (h : L2.atI cs k = some d) : ixF (.t (.tup cs)) (.t (.int k)) m = .ok (.av (.t d)) m := by
  simp only [ixF, seqOf, h, okD?, okD]
theorem at_ints (ns : List Int) (p : Int) (h0 : 0 ≤ p) (h1 : p < (intsD ns).length) : ∃ c, L2.atI (intsD ns) p = some (.int c) := by
  have hl : (intsD ns).length = ns.length := by simp [intsD]
  obtain ⟨k, rfl⟩ := Int.eq_ofNat_of_zero_le h0
  have hk : k < ns.length := by omega
  refine ⟨ns[k], ?_⟩
  rw [atI_nat _ _ (by omega)]
  simp [intsD]
structure Good (p q s : Int) : Prop where
  p : 0 ≤ p
  q : 0 ≤ q
  s0 : 0 ≤ s
  s1 : s < 2147483647
theorem ofS_treeS (S : List Cell) (i : Nat) (c c' : Cell) (d : D) (s : List (Option SV)) (b : Nat) : ofS (S.set i c) (.ret (.av (.t d)) ⟨s, S.set i c', b⟩) = .ret (.av (.t d)) (S.set i c') := ofS_tree _ _ _ _ _ (by rw [List.length_set, List.length_set])
theorem small_of (s : Int) (h : 0 ≤ s) (h2 : s < 2147483647) : smallI s = true := by
  unfold smallI
  rw [decide_eq_true (by omega), decide_eq_true (by omega)]
  rfl
theorem emod_lo (a n : Int) (h : 0 < n) : 0 ≤ a % n := Int.emod_nonneg _ (by omega)
abbrev pm (i : Nat) (n : Int) (x y z : Option SV) (S : List Cell) (b : Nat) : M := ⟨[some (SV.av (.b i)), some (SV.av (.t (.int n))), x, y, z], S, b⟩
theorem pull_1 (b i : Nat) (n : Int) (ns : List Int) (p q s : Int) (S : List Cell) (hi : i < S.length) (g : Good p q s) (hn : 0 < n) :
    ∃ x p' q' s', Good p' q' s' ∧ G_law_pull_s1 (pm i n none none none (S.set i (draw (intsD ns) p q s)) b) = .nx (pm i n x none none (S.set i (draw (intsD ns) p' q' s')) b) := by
  unfold G_law_pull_s1 pm
  obtain ⟨g1, g2, g3, g4⟩ := g
  by_cases hq : q < n
  · by_cases hp : p < (intsD ns).length
    · obtain ⟨c, hc⟩ := at_ints ns p g1 hp
      by_cases hb : 1000000000000000000 ≤ c
      · refine ⟨some (SV.av (.t (.int c))), p + 1, c, s, ⟨by omega, by omega, g3, g4⟩, ?_⟩
        simp only [ev_getV, ev_kGet, ev_kGetO, ev_pure, ev_frz, ev_kFrz, ev_kFrzL, ev_kFrzD, ev_kFrzX, ev_se, ev_kSe, ev_kSeX, ev_st, ev_kStT, ev_kStB, ev_e1, ev_kE1, ev_e2, ev_kE2, ev_eL, ev_kEL, ev_nil, ev_cons, ev_kCons, ev_kCons2, ev_boolR, ev_kBoolR, ev_notB, ev_kNot, ev_andB, ev_kAndT, ev_kAndF, ev_orB, ev_kOrT, ev_kOrF, ev_band, ev_kBandT, ev_kBandF, ev_bor, ev_kBorT, ev_kBorF, ev_t1, ev_kT1n, ev_ifE, ev_kIfT, ev_kIfF, ev_callE, ev_call1, ev_call1b, ev_call2, ev_call2b, ev_call3, ev_call3b, ev_kCallT, ev_kCallO, ev_kCallX, ev_noPart, ev_intPart, ev_kPart, ev_eS, ev_kSl1, ev_kSl2, ev_kSl3, ev_lst, ev_tup, ev_tup0, ev_tup1, ev_tup2, ev_tup3, ev_tup4, ev_lst0, ev_lst1, ev_lst2, ev_lst3, ev_lst4, ev_eMt, ev_kMt, ev_seq, ev_kSeqN, ev_kSeqR, ev_kSeqX, ev_kSeqB, ev_kSeqC, ev_ret, ev_kRetT, ev_kRetO, ev_kRetX, ev_ifS, ev_kIfST, ev_kIfSF, ev_nx, ev_set, ev_kSetT, ev_own, ev_kOwn, ev_box, ev_kBox, ev_drop, ev_kDrop, ev_setIx, ev_kSetIx1, ev_kSetIx2, ev_kSetIx3, ev_kSetIx4, ev_par, ev_kPar, ev_asg, ev_kAsg, ev_for, ev_kFor, ev_it, ev_kItT, ev_kItL, ev_kItS, ev_rng1, ev_kRng1, ev_lc, List.getElem?_cons_zero, List.getElem?_cons_succ, List.set_cons_zero, List.set_cons_succ, slots, List.map_cons, List.map_nil, List.length_cons, List.length_nil, List.replicate_succ, List.replicate_zero, List.cons_append, List.nil_append, List.append_nil, Nat.reduceSub, Nat.reduceAdd, Nat.zero_add, Nat.sub_self, Nat.sub_zero, Nat.reduceLeDiff, okD, okD?, add_r, lt_r, ge_r, gt_r, le_r, sub_r, len_l, len_t, neg_r, Bool.not_true, Bool.not_false, dix0 hi, dix1 hi, dix2 hi, dix3 hi, dset1 hi, dset2 hi, dset3 hi, decide_eq_true hq, decide_eq_true hp, ix_l _ _ _ _ hc, pow18, decide_eq_true hb]
      · have hm : (s * 40692 + c % 2147483629 * 69621 + 104729) % 2147483647 < 2147483647 := Int.emod_lt_of_pos _ (by decide)
        refine ⟨some (SV.av (.t (.int c))), p + 1, 0, (s * 40692 + c % 2147483629 * 69621 + 104729) % 2147483647, ⟨by omega, by omega, emod_lo _ _ (by decide), hm⟩, ?_⟩
        simp only [ev_getV, ev_kGet, ev_kGetO, ev_pure, ev_frz, ev_kFrz, ev_kFrzL, ev_kFrzD, ev_kFrzX, ev_se, ev_kSe, ev_kSeX, ev_st, ev_kStT, ev_kStB, ev_e1, ev_kE1, ev_e2, ev_kE2, ev_eL, ev_kEL, ev_nil, ev_cons, ev_kCons, ev_kCons2, ev_boolR, ev_kBoolR, ev_notB, ev_kNot, ev_andB, ev_kAndT, ev_kAndF, ev_orB, ev_kOrT, ev_kOrF, ev_band, ev_kBandT, ev_kBandF, ev_bor, ev_kBorT, ev_kBorF, ev_t1, ev_kT1n, ev_ifE, ev_kIfT, ev_kIfF, ev_callE, ev_call1, ev_call1b, ev_call2, ev_call2b, ev_call3, ev_call3b, ev_kCallT, ev_kCallO, ev_kCallX, ev_noPart, ev_intPart, ev_kPart, ev_eS, ev_kSl1, ev_kSl2, ev_kSl3, ev_lst, ev_tup, ev_tup0, ev_tup1, ev_tup2, ev_tup3, ev_tup4, ev_lst0, ev_lst1, ev_lst2, ev_lst3, ev_lst4, ev_eMt, ev_kMt, ev_seq, ev_kSeqN, ev_kSeqR, ev_kSeqX, ev_kSeqB, ev_kSeqC, ev_ret, ev_kRetT, ev_kRetO, ev_kRetX, ev_ifS, ev_kIfST, ev_kIfSF, ev_nx, ev_set, ev_kSetT, ev_own, ev_kOwn, ev_box, ev_kBox, ev_drop, ev_kDrop, ev_setIx, ev_kSetIx1, ev_kSetIx2, ev_kSetIx3, ev_kSetIx4, ev_par, ev_kPar, ev_asg, ev_kAsg, ev_for, ev_kFor, ev_it, ev_kItT, ev_kItL, ev_kItS, ev_rng1, ev_kRng1, ev_lc, List.getElem?_cons_zero, List.getElem?_cons_succ, List.set_cons_zero, List.set_cons_succ, slots, List.map_cons, List.map_nil, List.length_cons, List.length_nil, List.replicate_succ, List.replicate_zero, List.cons_append, List.nil_append, List.append_nil, Nat.reduceSub, Nat.reduceAdd, Nat.zero_add, Nat.sub_self, Nat.sub_zero, Nat.reduceLeDiff, okD, okD?, add_r, lt_r, ge_r, gt_r, le_r, sub_r, len_l, len_t, neg_r, Bool.not_true, Bool.not_false, dix0 hi, dix1 hi, dix2 hi, dix3 hi, dset1 hi, dset2 hi, dset3 hi, decide_eq_true hq, decide_eq_true hp, ix_l _ _ _ _ hc, pow18, decide_eq_false hb, mul_r _ 40692 _ rfl, mul_r _ 69621 _ rfl, mod_r _ 2147483629 _ (by decide), mod_r _ 2147483647 _ (by decide)]
    · refine ⟨none, p, q, s, ⟨g1, g2, g3, g4⟩, ?_⟩
      simp only [ev_getV, ev_kGet, ev_kGetO, ev_pure, ev_frz, ev_kFrz, ev_kFrzL, ev_kFrzD, ev_kFrzX, ev_se, ev_kSe, ev_kSeX, ev_st, ev_kStT, ev_kStB, ev_e1, ev_kE1, ev_e2, ev_kE2, ev_eL, ev_kEL, ev_nil, ev_cons, ev_kCons, ev_kCons2, ev_boolR, ev_kBoolR, ev_notB, ev_kNot, ev_andB, ev_kAndT, ev_kAndF, ev_orB, ev_kOrT, ev_kOrF, ev_band, ev_kBandT, ev_kBandF, ev_bor, ev_kBorT, ev_kBorF, ev_t1, ev_kT1n, ev_ifE, ev_kIfT, ev_kIfF, ev_callE, ev_call1, ev_call1b, ev_call2, ev_call2b, ev_call3, ev_call3b, ev_kCallT, ev_kCallO, ev_kCallX, ev_noPart, ev_intPart, ev_kPart, ev_eS, ev_kSl1, ev_kSl2, ev_kSl3, ev_lst, ev_tup, ev_tup0, ev_tup1, ev_tup2, ev_tup3, ev_tup4, ev_lst0, ev_lst1, ev_lst2, ev_lst3, ev_lst4, ev_eMt, ev_kMt, ev_seq, ev_kSeqN, ev_kSeqR, ev_kSeqX, ev_kSeqB, ev_kSeqC, ev_ret, ev_kRetT, ev_kRetO, ev_kRetX, ev_ifS, ev_kIfST, ev_kIfSF, ev_nx, ev_set, ev_kSetT, ev_own, ev_kOwn, ev_box, ev_kBox, ev_drop, ev_kDrop, ev_setIx, ev_kSetIx1, ev_kSetIx2, ev_kSetIx3, ev_kSetIx4, ev_par, ev_kPar, ev_asg, ev_kAsg, ev_for, ev_kFor, ev_it, ev_kItT, ev_kItL, ev_kItS, ev_rng1, ev_kRng1, ev_lc, List.getElem?_cons_zero, List.getElem?_cons_succ, List.set_cons_zero, List.set_cons_succ, slots, List.map_cons, List.map_nil, List.length_cons, List.length_nil, List.replicate_succ, List.replicate_zero, List.cons_append, List.nil_append, List.append_nil, Nat.reduceSub, Nat.reduceAdd, Nat.zero_add, Nat.sub_self, Nat.sub_zero, Nat.reduceLeDiff, okD, okD?, add_r, lt_r, ge_r, gt_r, le_r, sub_r, len_l, len_t, neg_r, Bool.not_true, Bool.not_false, dix0 hi, dix1 hi, dix2 hi, dix3 hi, decide_eq_true hq, decide_eq_false hp]
  · refine ⟨none, p, q, s, ⟨g1, g2, g3, g4⟩, ?_⟩
    simp only [ev_getV, ev_kGet, ev_kGetO, ev_pure, ev_frz, ev_kFrz, ev_kFrzL, ev_kFrzD, ev_kFrzX, ev_se, ev_kSe, ev_kSeX, ev_st, ev_kStT, ev_kStB, ev_e1, ev_kE1, ev_e2, ev_kE2, ev_eL, ev_kEL, ev_nil, ev_cons, ev_kCons, ev_kCons2, ev_boolR, ev_kBoolR, ev_notB, ev_kNot, ev_andB, ev_kAndT, ev_kAndF, ev_orB, ev_kOrT, ev_kOrF, ev_band, ev_kBandT, ev_kBandF, ev_bor, ev_kBorT, ev_kBorF, ev_t1, ev_kT1n, ev_ifE, ev_kIfT, ev_kIfF, ev_callE, ev_call1, ev_call1b, ev_call2, ev_call2b, ev_call3, ev_call3b, ev_kCallT, ev_kCallO, ev_kCallX, ev_noPart, ev_intPart, ev_kPart, ev_eS, ev_kSl1, ev_kSl2, ev_kSl3, ev_lst, ev_tup, ev_tup0, ev_tup1, ev_tup2, ev_tup3, ev_tup4, ev_lst0, ev_lst1, ev_lst2, ev_lst3, ev_lst4, ev_eMt, ev_kMt, ev_seq, ev_kSeqN, ev_kSeqR, ev_kSeqX, ev_kSeqB, ev_kSeqC, ev_ret, ev_kRetT, ev_kRetO, ev_kRetX, ev_ifS, ev_kIfST, ev_kIfSF, ev_nx, ev_set, ev_kSetT, ev_own, ev_kOwn, ev_box, ev_kBox, ev_drop, ev_kDrop, ev_setIx, ev_kSetIx1, ev_kSetIx2, ev_kSetIx3, ev_kSetIx4, ev_par, ev_kPar, ev_asg, ev_kAsg, ev_for, ev_kFor, ev_it, ev_kItT, ev_kItL, ev_kItS, ev_rng1, ev_kRng1, ev_lc, List.getElem?_cons_zero, List.getElem?_cons_succ, List.set_cons_zero, List.set_cons_succ, slots, List.map_cons, List.map_nil, List.length_cons, List.length_nil, List.replicate_succ, List.replicate_zero, List.cons_append, List.nil_append, List.append_nil, Nat.reduceSub, Nat.reduceAdd, Nat.zero_add, Nat.sub_self, Nat.sub_zero, Nat.reduceLeDiff, okD, okD?, add_r, lt_r, ge_r, gt_r, le_r, sub_r, len_l, len_t, neg_r, Bool.not_true, Bool.not_false, dix0 hi, dix1 hi, dix2 hi, dix3 hi, decide_eq_false hq]
theorem pull_2 (b i : Nat) (n : Int) (x : Option SV) (ns : List Int) (p q s : Int) (S : List Cell) (hi : i < S.length) (g : Good p q s) (hn : 0 < n) (hn2 : n < 1073741824) (hq : n ≤ q) :
    G_law_pull_s2 (pm i n x none none (S.set i (draw (intsD ns) p q s)) b) = .ret (.av (.t (.int (q % n)))) (pm i n x (some (SV.av (.t (.int (q % n))))) none (S.set i (draw (intsD ns) p (q / n) s)) b) := by
  unfold G_law_pull_s2 pm
  simp only [ev_getV, ev_kGet, ev_kGetO, ev_pure, ev_frz, ev_kFrz, ev_kFrzL, ev_kFrzD, ev_kFrzX, ev_se, ev_kSe, ev_kSeX, ev_st, ev_kStT, ev_kStB, ev_e1, ev_kE1, ev_e2, ev_kE2, ev_eL, ev_kEL, ev_nil, ev_cons, ev_kCons, ev_kCons2, ev_boolR, ev_kBoolR, ev_notB, ev_kNot, ev_andB, ev_kAndT, ev_kAndF, ev_orB, ev_kOrT, ev_kOrF, ev_band, ev_kBandT, ev_kBandF, ev_bor, ev_kBorT, ev_kBorF, ev_t1, ev_kT1n, ev_ifE, ev_kIfT, ev_kIfF, ev_callE, ev_call1, ev_call1b, ev_call2, ev_call2b, ev_call3, ev_call3b, ev_kCallT, ev_kCallO, ev_kCallX, ev_noPart, ev_intPart, ev_kPart, ev_eS, ev_kSl1, ev_kSl2, ev_kSl3, ev_lst, ev_tup, ev_tup0, ev_tup1, ev_tup2, ev_tup3, ev_tup4, ev_lst0, ev_lst1, ev_lst2, ev_lst3, ev_lst4, ev_eMt, ev_kMt, ev_seq, ev_kSeqN, ev_kSeqR, ev_kSeqX, ev_kSeqB, ev_kSeqC, ev_ret, ev_kRetT, ev_kRetO, ev_kRetX, ev_ifS, ev_kIfST, ev_kIfSF, ev_nx, ev_set, ev_kSetT, ev_own, ev_kOwn, ev_box, ev_kBox, ev_drop, ev_kDrop, ev_setIx, ev_kSetIx1, ev_kSetIx2, ev_kSetIx3, ev_kSetIx4, ev_par, ev_kPar, ev_asg, ev_kAsg, ev_for, ev_kFor, ev_it, ev_kItT, ev_kItL, ev_kItS, ev_rng1, ev_kRng1, ev_lc, List.getElem?_cons_zero, List.getElem?_cons_succ, List.set_cons_zero, List.set_cons_succ, slots, List.map_cons, List.map_nil, List.length_cons, List.length_nil, List.replicate_succ, List.replicate_zero, List.cons_append, List.nil_append, List.append_nil, Nat.reduceSub, Nat.reduceAdd, Nat.zero_add, Nat.sub_self, Nat.sub_zero, Nat.reduceLeDiff, okD, okD?, add_r, lt_r, ge_r, gt_r, le_r, sub_r, len_l, len_t, neg_r, Bool.not_true, Bool.not_false, dix0 hi, dix1 hi, dix2 hi, dix3 hi, dset1 hi, dset2 hi, dset3 hi, decide_eq_true hq, mod_r _ _ _ hn, div_r _ _ _ hn hn2]
theorem pull_2n (b i : Nat) (n : Int) (x : Option SV) (ns : List Int) (p q s : Int) (S : List Cell) (hi : i < S.length) (hq : ¬ n ≤ q) :
    G_law_pull_s2 (pm i n x none none (S.set i (draw (intsD ns) p q s)) b) = .nx (pm i n x none none (S.set i (draw (intsD ns) p q s)) b) := by
  unfold G_law_pull_s2 pm
  simp only [ev_getV, ev_kGet, ev_kGetO, ev_pure, ev_frz, ev_kFrz, ev_kFrzL, ev_kFrzD, ev_kFrzX, ev_se, ev_kSe, ev_kSeX, ev_st, ev_kStT, ev_kStB, ev_e1, ev_kE1, ev_e2, ev_kE2, ev_eL, ev_kEL, ev_nil, ev_cons, ev_kCons, ev_kCons2, ev_boolR, ev_kBoolR, ev_notB, ev_kNot, ev_andB, ev_kAndT, ev_kAndF, ev_orB, ev_kOrT, ev_kOrF, ev_band, ev_kBandT, ev_kBandF, ev_bor, ev_kBorT, ev_kBorF, ev_t1, ev_kT1n, ev_ifE, ev_kIfT, ev_kIfF, ev_callE, ev_call1, ev_call1b, ev_call2, ev_call2b, ev_call3, ev_call3b, ev_kCallT, ev_kCallO, ev_kCallX, ev_noPart, ev_intPart, ev_kPart, ev_eS, ev_kSl1, ev_kSl2, ev_kSl3, ev_lst, ev_tup, ev_tup0, ev_tup1, ev_tup2, ev_tup3, ev_tup4, ev_lst0, ev_lst1, ev_lst2, ev_lst3, ev_lst4, ev_eMt, ev_kMt, ev_seq, ev_kSeqN, ev_kSeqR, ev_kSeqX, ev_kSeqB, ev_kSeqC, ev_ret, ev_kRetT, ev_kRetO, ev_kRetX, ev_ifS, ev_kIfST, ev_kIfSF, ev_nx, ev_set, ev_kSetT, ev_own, ev_kOwn, ev_box, ev_kBox, ev_drop, ev_kDrop, ev_setIx, ev_kSetIx1, ev_kSetIx2, ev_kSetIx3, ev_kSetIx4, ev_par, ev_kPar, ev_asg, ev_kAsg, ev_for, ev_kFor, ev_it, ev_kItT, ev_kItL, ev_kItS, ev_rng1, ev_kRng1, ev_lc, List.getElem?_cons_zero, List.getElem?_cons_succ, List.set_cons_zero, List.set_cons_succ, slots, List.map_cons, List.map_nil, List.length_cons, List.length_nil, List.replicate_succ, List.replicate_zero, List.cons_append, List.nil_append, List.append_nil, Nat.reduceSub, Nat.reduceAdd, Nat.zero_add, Nat.sub_self, Nat.sub_zero, Nat.reduceLeDiff, okD, okD?, add_r, lt_r, ge_r, gt_r, le_r, sub_r, len_l, len_t, neg_r, Bool.not_true, Bool.not_false, dix0 hi, dix1 hi, dix2 hi, dix3 hi, decide_eq_false hq]
theorem pull_3 (b i : Nat) (n : Int) (x : Option SV) (ns : List Int) (p q s : Int) (S : List Cell) (hi : i < S.length) (g : Good p q s) (hn : 0 < n) :
    ∃ r s' z m', 0 ≤ r ∧ r < n ∧ Good p q s' ∧ m' = pm i n x none z (S.set i (draw (intsD ns) p q s')) b ∧ kSeq (seqS G_law_pull_s4 G_law_pull_s5) (G_law_pull_s3 (pm i n x none none (S.set i (draw (intsD ns) p q s)) b)) = .ret (.av (.t (.int r))) m' := by
  obtain ⟨g1, g2, g3, g4⟩ := g
  have sm := small_of s g3 g4
  unfold G_law_pull_s3 G_law_pull_s4 G_law_pull_s5 pm
  have hm : (s * s % 2147483587 * 5 + s * 16807 + 1013904229) % 2147483647 < 2147483647 := Int.emod_lt_of_pos _ (by decide)
  refine ⟨((s * s % 2147483587 * 5 + s * 16807 + 1013904229) % 2147483647 / 53 + (s * s % 2147483587 * 5 + s * 16807 + 1013904229) % 2147483647 % 8191 * 31) % n, (s * s % 2147483587 * 5 + s * 16807 + 1013904229) % 2147483647, some (SV.av (.t (.int s))), _, emod_lo _ _ hn, Int.emod_lt_of_pos _ hn, ⟨g1, g2, emod_lo _ _ (by decide), hm⟩, rfl, ?_⟩
  simp only [ev_getV, ev_kGet, ev_kGetO, ev_pure, ev_frz, ev_kFrz, ev_kFrzL, ev_kFrzD, ev_kFrzX, ev_se, ev_kSe, ev_kSeX, ev_st, ev_kStT, ev_kStB, ev_e1, ev_kE1, ev_e2, ev_kE2, ev_eL, ev_kEL, ev_nil, ev_cons, ev_kCons, ev_kCons2, ev_boolR, ev_kBoolR, ev_notB, ev_kNot, ev_andB, ev_kAndT, ev_kAndF, ev_orB, ev_kOrT, ev_kOrF, ev_band, ev_kBandT, ev_kBandF, ev_bor, ev_kBorT, ev_kBorF, ev_t1, ev_kT1n, ev_ifE, ev_kIfT, ev_kIfF, ev_callE, ev_call1, ev_call1b, ev_call2, ev_call2b, ev_call3, ev_call3b, ev_kCallT, ev_kCallO, ev_kCallX, ev_noPart, ev_intPart, ev_kPart, ev_eS, ev_kSl1, ev_kSl2, ev_kSl3, ev_lst, ev_tup, ev_tup0, ev_tup1, ev_tup2, ev_tup3, ev_tup4, ev_lst0, ev_lst1, ev_lst2, ev_lst3, ev_lst4, ev_eMt, ev_kMt, ev_seq, ev_kSeqN, ev_kSeqR, ev_kSeqX, ev_kSeqB, ev_kSeqC, ev_ret, ev_kRetT, ev_kRetO, ev_kRetX, ev_ifS, ev_kIfST, ev_kIfSF, ev_nx, ev_set, ev_kSetT, ev_own, ev_kOwn, ev_box, ev_kBox, ev_drop, ev_kDrop, ev_setIx, ev_kSetIx1, ev_kSetIx2, ev_kSetIx3, ev_kSetIx4, ev_par, ev_kPar, ev_asg, ev_kAsg, ev_for, ev_kFor, ev_it, ev_kItT, ev_kItL, ev_kItS, ev_rng1, ev_kRng1, ev_lc, List.getElem?_cons_zero, List.getElem?_cons_succ, List.set_cons_zero, List.set_cons_succ, slots, List.map_cons, List.map_nil, List.length_cons, List.length_nil, List.replicate_succ, List.replicate_zero, List.cons_append, List.nil_append, List.append_nil, Nat.reduceSub, Nat.reduceAdd, Nat.zero_add, Nat.sub_self, Nat.sub_zero, Nat.reduceLeDiff, okD, okD?, add_r, lt_r, ge_r, gt_r, le_r, sub_r, len_l, len_t, neg_r, Bool.not_true, Bool.not_false, dix0 hi, dix1 hi, dix2 hi, dix3 hi, dset1 hi, dset2 hi, dset3 hi, mul_r _ s _ sm, mul_r _ 5 _ rfl, mul_r _ 16807 _ rfl, mul_r _ 31 _ rfl, mod_r _ 2147483587 _ (by decide), mod_r _ 2147483647 _ (by decide), mod_r _ 8191 _ (by decide), div_r _ 53 _ (by decide) (by decide), mod_r _ _ _ hn]
theorem pull (b i : Nat) (n : Int) (ns : List Int) (p q s : Int) (S : List Cell) (hi : i < S.length) (g : Good p q s) (hn : 0 < n) (hn2 : n < 1073741824) :
    ∃ r p' q' s', 0 ≤ r ∧ r < n ∧ Good p' q' s' ∧ S_law_pull b [.b i, .t (.int n)] (S.set i (draw (intsD ns) p q s)) = .ret (.av (.t (.int r))) (S.set i (draw (intsD ns) p' q' s')) := by
  rw [S_law_pull, mkT_of, G_law_pull]
  obtain ⟨x, p1, q1, s1, g1, e1⟩ := pull_1 (S.set i (draw (intsD ns) p q s)).length i n ns p q s S hi g hn
  show ∃ r p' q' s', 0 ≤ r ∧ r < n ∧ Good p' q' s' ∧ ofS _ (seqS _ _ (pm i n none none none (S.set i (draw (intsD ns) p q s)) _)) = _
  rw [ev_seq, e1, ev_kSeqN, ev_seq]
  by_cases hq : n ≤ q1
  · refine ⟨q1 % n, p1, q1 / n, s1, emod_lo _ _ hn, Int.emod_lt_of_pos _ hn, ⟨g1.p, Int.ediv_nonneg g1.q (by omega), g1.s0, g1.s1⟩, ?_⟩
    rw [pull_2 _ i n x ns p1 q1 s1 S hi g1 hn hn2 hq, ev_kSeqR]
    exact ofS_treeS _ _ _ _ _ _ _
  · rw [pull_2n _ i n x ns p1 q1 s1 S hi hq, ev_kSeqN, ev_seq]
    obtain ⟨r, s2, z, m', h1, h2, g2, e2, e3⟩ := pull_3 (S.set i (draw (intsD ns) p q s)).length i n x ns p1 q1 s1 S hi g1 hn
    refine ⟨r, p1, q1, s2, h1, h2, g2, ?_⟩
    rw [e3, e2]
    exact ofS_treeS _ _ _ _ _ _ _
/-! ### loops -/
theorem for_inv (B : AV → M → Option M) (G : Stm) (P : M → Prop) : ∀ (ds : List D), (∀ d ∈ ds, ∀ m, P m → ∃ m1 m2, B (.t d) m = some m1 ∧ G m1 = .nx m2 ∧ P m2) → ∀ m, P m → ∃ m', forGo B G ds m = .nx m' ∧ P m'
  | [], _, m, hm => ⟨m, rfl, hm⟩
  | d :: ds, h, m, hm => by
    obtain ⟨m1, m2, e1, e2, h2⟩ := h d List.mem_cons_self m hm
    obtain ⟨m', e3, h3⟩ := for_inv B G P ds (fun x hx => h x (List.mem_cons_of_mem _ hx)) m2 h2
    refine ⟨m', ?_, h3⟩
    unfold forGo
    rw [e1]
    dsimp only
    rw [e2]
    exact e3
theorem forGo_nx {B : AV → M → Option M} {G : Stm} {d : D} {ds : List D} {m m1 m2 : M} (h1 : B (.t d) m = some m1) (h2 : G m1 = .nx m2) : forGo B G (d :: ds) m = forGo B G ds m2 := by
  rw [forGo, h1]
  dsimp only
  rw [h2]
theorem forGo_ret {B : AV → M → Option M} {G : Stm} {d : D} {ds : List D} {m m1 m2 : M} {v : RV} (h1 : B (.t d) m = some m1) (h2 : G m1 = .ret v m2) : forGo B G (d :: ds) m = .ret v m2 := by
  rw [forGo, h1]
  dsimp only
  rw [h2]
theorem lc_inv (B : AV → M → Option M) (vs : List Nat) (T : Ex Bool) (F : Ex AV) (P : List D → M → Prop) : ∀ (ds : List D) (acc : List D) (m : M), (∀ d ∈ ds, ∀ acc' m, acc'.length < acc.length + ds.length → P acc' m → ∃ m1 m2 e m3, B (.t d) m = some m1 ∧ T m1 = .ok true m2 ∧ F m2 = .ok (.t e) m3 ∧ P (acc' ++ [e]) (wipeM vs m3)) → P acc m → ∃ out m', lcGo B vs T F ds acc m = .ok out m' ∧ out.length = acc.length + ds.length ∧ P out m'
  | [], acc, m, _, hm => ⟨acc, m, rfl, by simp, hm⟩
  | d :: ds, acc, m, h, hm => by
    obtain ⟨m1, m2, e, m3, e1, e2, e3, h2⟩ := h d List.mem_cons_self acc m (by simp) hm
    obtain ⟨out, m', e4, hl, h3⟩ := lc_inv B vs T F P ds (acc ++ [e]) (wipeM vs m3) (fun x hx a m ha => h x (List.mem_cons_of_mem _ hx) a m (by simp at ha ⊢; omega)) h2
    refine ⟨out, m', ?_, by simp at hl ⊢; omega, h3⟩
    unfold lcGo
    rw [e1]
    dsimp only
    rw [e2]
    dsimp only
    rw [e3]
    exact e4
theorem upTo_len (lo : Int) (n : Nat) : (BL.upTo lo n).length = n := by simp [BL.upTo]
/-! ### the opening -/
theorem cut_ints (ns : List Int) (lo hi : Option Int) : cutL (intsD ns) lo hi = intsD (cutL ns lo hi) := by
  unfold cutL intsD
  rw [List.length_map, List.map_take, List.map_drop]
theorem sl_k (xs : List D) (lo hi : Option Int) (m : M) : slF lo hi (.t (.kls xs)) m = .ok (.own (.lst (cutL xs lo hi))) m := rfl
theorem sl_t (xs : List D) (lo hi : Option Int) (m : M) : slF lo hi (.t (.tup xs)) m = .ok (.av (.t (.tup (cutL xs lo hi)))) m := rfl
theorem list_l (xs : List D) (m : M) : listAF [.t (.lst xs)] m = .ok (.own (.lst xs)) m := rfl
theorem name_t (i : Nat) (d : D) (s : List (Option SV)) (S : List Cell) (b : Nat) : nameB i (.t d) ⟨s, S, b⟩ = some ⟨s.set i (some (.av (.t d))), S, b⟩ := rfl
theorem law_open (b : Nat) (ns : List Int) (S : List Cell) : ∃ ks s, Good 0 0 s ∧ S_law_open b [.t (.kls (intsD ns))] S = .ret (.own (.lst [.lst (intsD ks), .int 0, .int 0, .int s])) S := by
  rw [S_law_open, mkT_of, G_law_open]
  have inv := for_inv (nameB 2) G_law_open_l1 (fun m => ∃ s z, 0 ≤ s ∧ s < 2147483647 ∧ m = ⟨[some (SV.av (.t (.kls (intsD ns)))), some (SV.av (.t (.int s))), z], S, S.length⟩) (intsD (cutL ns none (some 63))) (by
    rintro d hd m ⟨s, z, h0, h1, rfl⟩
    obtain ⟨c, _, rfl⟩ := List.mem_map.mp hd
    refine ⟨_, ⟨[some (SV.av (.t (.kls (intsD ns)))), some (SV.av (.t (.int ((s * 48271 + c % 2147483629 + 7) % 2147483647)))), some (SV.av (.t (.int c)))], S, S.length⟩, name_t _ _ _ _ _, ?_, ?_⟩
    · unfold G_law_open_l1
      simp only [ev_getV, ev_kGet, ev_kGetO, ev_pure, ev_frz, ev_kFrz, ev_kFrzL, ev_kFrzD, ev_kFrzX, ev_se, ev_kSe, ev_kSeX, ev_st, ev_kStT, ev_kStB, ev_e1, ev_kE1, ev_e2, ev_kE2, ev_eL, ev_kEL, ev_nil, ev_cons, ev_kCons, ev_kCons2, ev_boolR, ev_kBoolR, ev_notB, ev_kNot, ev_andB, ev_kAndT, ev_kAndF, ev_orB, ev_kOrT, ev_kOrF, ev_band, ev_kBandT, ev_kBandF, ev_bor, ev_kBorT, ev_kBorF, ev_t1, ev_kT1n, ev_ifE, ev_kIfT, ev_kIfF, ev_callE, ev_call1, ev_call1b, ev_call2, ev_call2b, ev_call3, ev_call3b, ev_kCallT, ev_kCallO, ev_kCallX, ev_noPart, ev_intPart, ev_kPart, ev_eS, ev_kSl1, ev_kSl2, ev_kSl3, ev_lst, ev_tup, ev_tup0, ev_tup1, ev_tup2, ev_tup3, ev_tup4, ev_lst0, ev_lst1, ev_lst2, ev_lst3, ev_lst4, ev_eMt, ev_kMt, ev_seq, ev_kSeqN, ev_kSeqR, ev_kSeqX, ev_kSeqB, ev_kSeqC, ev_ret, ev_kRetT, ev_kRetO, ev_kRetX, ev_ifS, ev_kIfST, ev_kIfSF, ev_nx, ev_set, ev_kSetT, ev_own, ev_kOwn, ev_box, ev_kBox, ev_drop, ev_kDrop, ev_setIx, ev_kSetIx1, ev_kSetIx2, ev_kSetIx3, ev_kSetIx4, ev_par, ev_kPar, ev_asg, ev_kAsg, ev_for, ev_kFor, ev_it, ev_kItT, ev_kItL, ev_kItS, ev_rng1, ev_kRng1, ev_lc, List.getElem?_cons_zero, List.getElem?_cons_succ, List.set_cons_zero, List.set_cons_succ, slots, List.map_cons, List.map_nil, List.length_cons, List.length_nil, List.replicate_succ, List.replicate_zero, List.cons_append, List.nil_append, List.append_nil, Nat.reduceSub, Nat.reduceAdd, Nat.zero_add, Nat.sub_self, Nat.sub_zero, Nat.reduceLeDiff, okD, okD?, add_r, lt_r, ge_r, gt_r, le_r, sub_r, len_l, len_t, neg_r, Bool.not_true, Bool.not_false, mul_r _ 48271 _ rfl, mod_r _ 2147483629 _ (by decide), mod_r _ 2147483647 _ (by decide)]
    · exact ⟨_, _, emod_lo _ _ (by decide), Int.emod_lt_of_pos _ (by decide), rfl⟩)
    ⟨[some (SV.av (.t (.kls (intsD ns)))), some (SV.av (.t (.int 9111))), none], S, S.length⟩ ⟨9111, none, by decide, by decide, rfl⟩
  obtain ⟨m', e1, s, z, h0, h1, rfl⟩ := inv
  refine ⟨cutL ns none (some 63), s, ⟨by decide, by decide, h0, h1⟩, ?_⟩
  unfold G_law_open_s1 G_law_open_s2 G_law_open_s3
  simp only [ev_getV, ev_kGet, ev_kGetO, ev_pure, ev_frz, ev_kFrz, ev_kFrzL, ev_kFrzD, ev_kFrzX, ev_se, ev_kSe, ev_kSeX, ev_st, ev_kStT, ev_kStB, ev_e1, ev_kE1, ev_e2, ev_kE2, ev_eL, ev_kEL, ev_nil, ev_cons, ev_kCons, ev_kCons2, ev_boolR, ev_kBoolR, ev_notB, ev_kNot, ev_andB, ev_kAndT, ev_kAndF, ev_orB, ev_kOrT, ev_kOrF, ev_band, ev_kBandT, ev_kBandF, ev_bor, ev_kBorT, ev_kBorF, ev_t1, ev_kT1n, ev_ifE, ev_kIfT, ev_kIfF, ev_callE, ev_call1, ev_call1b, ev_call2, ev_call2b, ev_call3, ev_call3b, ev_kCallT, ev_kCallO, ev_kCallX, ev_noPart, ev_intPart, ev_kPart, ev_eS, ev_kSl1, ev_kSl2, ev_kSl3, ev_lst, ev_tup, ev_tup0, ev_tup1, ev_tup2, ev_tup3, ev_tup4, ev_lst0, ev_lst1, ev_lst2, ev_lst3, ev_lst4, ev_eMt, ev_kMt, ev_seq, ev_kSeqN, ev_kSeqR, ev_kSeqX, ev_kSeqB, ev_kSeqC, ev_ret, ev_kRetT, ev_kRetO, ev_kRetX, ev_ifS, ev_kIfST, ev_kIfSF, ev_nx, ev_set, ev_kSetT, ev_own, ev_kOwn, ev_box, ev_kBox, ev_drop, ev_kDrop, ev_setIx, ev_kSetIx1, ev_kSetIx2, ev_kSetIx3, ev_kSetIx4, ev_par, ev_kPar, ev_asg, ev_kAsg, ev_for, ev_kFor, ev_it, ev_kItT, ev_kItL, ev_kItS, ev_rng1, ev_kRng1, ev_lc, List.getElem?_cons_zero, List.getElem?_cons_succ, List.set_cons_zero, List.set_cons_succ, slots, List.map_cons, List.map_nil, List.length_cons, List.length_nil, List.replicate_succ, List.replicate_zero, List.cons_append, List.nil_append, List.append_nil, Nat.reduceSub, Nat.reduceAdd, Nat.zero_add, Nat.sub_self, Nat.sub_zero, Nat.reduceLeDiff, okD, okD?, add_r, lt_r, ge_r, gt_r, le_r, sub_r, len_l, len_t, neg_r, Bool.not_true, Bool.not_false, sl_k, cut_ints, e1, list_l, ev_lst4]
  exact ofS_lst _ _ _ _ _ rfl
/-! ### one of some -/
theorem kcall_b (m : M) (d : D) (S' : List Cell) : kCall m (.ret (.av (.t d)) S') = .ok (.av (.t d)) { m with S := S' } := rfl
theorem law_any (b i : Nat) (ns : List Int) (p q s : Int) (S : List Cell) (hi : i < S.length) (g : Good p q s) (ds : List D) (h0 : 0 < ds.length) (h1 : ds.length < 1000000) :
    ∃ d ∈ ds, ∃ p' q' s', Good p' q' s' ∧ S_law_any b [.b i, .t (.lst ds)] (S.set i (draw (intsD ns) p q s)) = .ret (.av (.t d)) (S.set i (draw (intsD ns) p' q' s')) := by
  rw [S_law_any, mkT_of, G_law_any]
  obtain ⟨r, p', q', s', hr0, hr1, g', e⟩ := pull (S.set i (draw (intsD ns) p q s)).length i ds.length ns p q s S hi g (by omega) (by omega)
  obtain ⟨k, rfl⟩ := Int.eq_ofNat_of_zero_le hr0
  have hk : k < ds.length := by omega
  refine ⟨ds[k], List.getElem_mem hk, p', q', s', g', ?_⟩
  unfold G_law_any_s1
  simp only [ev_getV, ev_kGet, ev_kGetO, ev_pure, ev_frz, ev_kFrz, ev_kFrzL, ev_kFrzD, ev_kFrzX, ev_se, ev_kSe, ev_kSeX, ev_st, ev_kStT, ev_kStB, ev_e1, ev_kE1, ev_e2, ev_kE2, ev_eL, ev_kEL, ev_nil, ev_cons, ev_kCons, ev_kCons2, ev_boolR, ev_kBoolR, ev_notB, ev_kNot, ev_andB, ev_kAndT, ev_kAndF, ev_orB, ev_kOrT, ev_kOrF, ev_band, ev_kBandT, ev_kBandF, ev_bor, ev_kBorT, ev_kBorF, ev_t1, ev_kT1n, ev_ifE, ev_kIfT, ev_kIfF, ev_callE, ev_call1, ev_call1b, ev_call2, ev_call2b, ev_call3, ev_call3b, ev_kCallT, ev_kCallO, ev_kCallX, ev_noPart, ev_intPart, ev_kPart, ev_eS, ev_kSl1, ev_kSl2, ev_kSl3, ev_lst, ev_tup, ev_tup0, ev_tup1, ev_tup2, ev_tup3, ev_tup4, ev_lst0, ev_lst1, ev_lst2, ev_lst3, ev_lst4, ev_eMt, ev_kMt, ev_seq, ev_kSeqN, ev_kSeqR, ev_kSeqX, ev_kSeqB, ev_kSeqC, ev_ret, ev_kRetT, ev_kRetO, ev_kRetX, ev_ifS, ev_kIfST, ev_kIfSF, ev_nx, ev_set, ev_kSetT, ev_own, ev_kOwn, ev_box, ev_kBox, ev_drop, ev_kDrop, ev_setIx, ev_kSetIx1, ev_kSetIx2, ev_kSetIx3, ev_kSetIx4, ev_par, ev_kPar, ev_asg, ev_kAsg, ev_for, ev_kFor, ev_it, ev_kItT, ev_kItL, ev_kItS, ev_rng1, ev_kRng1, ev_lc, List.getElem?_cons_zero, List.getElem?_cons_succ, List.set_cons_zero, List.set_cons_succ, slots, List.map_cons, List.map_nil, List.length_cons, List.length_nil, List.replicate_succ, List.replicate_zero, List.cons_append, List.nil_append, List.append_nil, Nat.reduceSub, Nat.reduceAdd, Nat.zero_add, Nat.sub_self, Nat.sub_zero, Nat.reduceLeDiff, okD, okD?, add_r, lt_r, ge_r, gt_r, le_r, sub_r, len_l, len_t, neg_r, Bool.not_true, Bool.not_false, e, ix_l ds k _ _ (atI_nat ds k hk)]
  exact ofS_treeS _ _ _ _ _ _ _

end Lm
end part_Lc1_k22

section part_Lc2_k22
set_option Elab.async false
set_option linter.all false
set_option maxRecDepth 100000
set_option maxHeartbeats 8000000
set_option autoImplicit false
open PySem BL Lw
namespace Lm
/-! ### equalities -/
theorem eq_i (a c : Int) (m : M) : eqF false (.t (.int a)) (.t (.int c)) m = .ok (.av (.t (.bl (decide (a = c))))) m := by
  have e : eqF false (.t (.int a)) (.t (.int c)) m = .ok (.av (.t (.bl (false != (a == c))))) m := rfl
  rw [e]
  simp [BEq.beq]
theorem ne_i (a c : Int) (m : M) : eqF true (.t (.int a)) (.t (.int c)) m = .ok (.av (.t (.bl (decide (a ≠ c))))) m := by
  have e : eqF true (.t (.int a)) (.t (.int c)) m = .ok (.av (.t (.bl (true != (a == c))))) m := rfl
  rw [e]
  by_cases h : a = c <;> simp [h]
/-- a text of true signs -/
def sg (x : List Nat) : Bool := x.all fun c => Nat.blt c 0x110000
theorem eq_s (x y : List Nat) (m : M) (hx : sg x = true) (hy : sg y = true) : eqF false (.t (.str x)) (.t (.str y)) m = .ok (.av (.t (.bl (decide (x = y))))) m := by
  have o : eqOkD (.str x) (.str y) = true := by
    show (true && true && sg x && sg y && Nat.ble (min 0 0) 150) = true
    rw [hx, hy]; rfl
  have e : eqF false (.t (.str x)) (.t (.str y)) m = (match eqOkD (.str x) (.str y) with
    | true => .ok (.av (.t (.bl (false != (x == y))))) m
    | false => .stuck) := rfl
  rw [e, o]
  by_cases h : x = y <;> simp [h]
theorem in_sg (c : Nat) (z : List Nat) (m : M) : inF false (.t (.str [c])) (.t (.str z)) m = .ok (.av (.t (.bl (decide (c ∈ z))))) m := by
  have e : inF false (.t (.str [c])) (.t (.str z)) m = .ok (.av (.t (.bl (false != decide (c ∈ z))))) m := rfl
  rw [e]
  simp
theorem in_2 (x y z : List Nat) (m : M) : inF false (.t (.str x)) (.t (.tup [.str y, .str z])) m = .ok (.av (.t (.bl (decide (x = y ∨ x = z))))) m := by
  have e : inF false (.t (.str x)) (.t (.tup [.str y, .str z])) m = .ok (.av (.t (.bl (false != (y == x || (z == x || false)))))) m := rfl
  rw [e]
  by_cases h : x = y
  · subst h; simp
  · by_cases h2 : x = z
    · subst h2; simp
    · have h3 : ¬ y = x := fun q => h q.symm
      have h4 : ¬ z = x := fun q => h2 q.symm
      simp [h, h2, h3, h4]
/-! ### letters -/
def Letter (d : D) : Prop := ∃ c : Nat, 97 ≤ c ∧ c ≤ 122 ∧ d = .str [c]
theorem ixN_nat (k n : Nat) (h : k < n) : L2.ixN n (k : Int) = some k := by
  unfold L2.ixN
  rw [if_pos (by omega), if_pos (by omega)]
  simp
theorem pop_at (s : List (Option SV)) (j : Nat) (ls : List D) (S : List Cell) (b k : Nat) (h : s[j]? = some (some (.own (.lst ls)))) (hk : k < ls.length) (hl : Nat.blt ls.length lim = true) :
    popAtF (.s j) [.t (.int k)] ⟨s, S, b⟩ = .ok (.av (.t ls[k])) ⟨s.set j (some (.own (.lst (ls.eraseIdx k)))), S, b⟩ := by
  have hw : wrL ⟨s, S, b⟩ (.s j) = some (.inl j, ls) := by simp only [wrL, wrAt, h]
  simp only [popAtF, hw, hl, ixN_nat k _ hk, List.getElem?_eq_getElem hk, putC]
theorem is_lst_s (s : List (Option SV)) (j : Nat) (ls : List D) (S : List Cell) (b : Nat) (h : s[j]? = some (some (.own (.lst ls)))) : isLstA (.s j) ⟨s, S, b⟩ = true := by
  simp only [isLstA, cellAt, h]
theorem len_s (s : List (Option SV)) (j : Nat) (ls : List D) (S : List Cell) (b : Nat) (h : s[j]? = some (some (.own (.lst ls)))) : lenF [.s j] ⟨s, S, b⟩ = .ok (.av (.t (.int ls.length))) ⟨s, S, b⟩ := by
  simp only [lenF, seqOf, lstOf, cellAt, h, Option.bind_some, cellL, okD]
theorem list_s (x : List Nat) (m : M) (h : Nat.blt x.length lim = true) : listAF [.t (.str x)] m = .ok (.own (.lst (x.map fun c => .str [c]))) m := by
  simp only [listAF, h]
theorem own_42 (c : Cell) (x0 x1 x2 x3 : Option SV) (S : List Cell) (b : Nat) : kOwn 2 (.ok (.own c) ⟨[x0, x1, x2, x3], S, b⟩) = .nx ⟨[x0, x1, some (.own c), x3], S, b⟩ := rfl
theorem letters_alpha (x : List Nat) (h : x.all (fun c => Nat.ble 97 c && Nat.ble c 122) = true) : ∀ d ∈ x.map (fun c => D.str [c]), Letter d := by
  intro d hd
  obtain ⟨c, hc, rfl⟩ := List.mem_map.mp hd
  have := List.all_eq_true.mp h c hc
  rw [Bool.and_eq_true] at this
  exact ⟨c, Nat.le_of_ble_eq_true this.1, Nat.le_of_ble_eq_true this.2, rfl⟩

end Lm
end part_Lc2_k22

section part_Lc3_k22
set_option Elab.async false
set_option linter.all false
set_option maxRecDepth 100000
set_option maxHeartbeats 8000000
set_option autoImplicit false
open PySem BL Lw
namespace Lm
theorem law_letters (b i : Nat) (ns : List Int) (p q s : Int) (S : List Cell) (hi : i < S.length) (g : Good p q s) (n : Nat) (hn : n ≤ 10) :
    ∃ out p' q' s', Good p' q' s' ∧ out.length = n ∧ (∀ d ∈ out, Letter d) ∧ S_law_letters b [.b i, .t (.int n)] (S.set i (draw (intsD ns) p q s)) = .ret (.own (.lst out)) (S.set i (draw (intsD ns) p' q' s')) := by
  rw [S_law_letters, mkT_of, G_law_letters]
  generalize hL : (S.set i (draw (intsD ns) p q s)).length = L
  obtain ⟨r, p1, q1, s1, hr0, hr1, g1, e1⟩ := pull L i 2 ns p q s S hi g (by decide) (by decide)
  have st2 : ∃ ls : List D, 11 ≤ ls.length ∧ ls.length ≤ 26 ∧ (∀ d ∈ ls, Letter d) ∧ seqS G_law_letters_s1 G_law_letters_s2 ⟨slots 4 [.b i, .t (.int n)], S.set i (draw (intsD ns) p q s), L⟩ = .nx ⟨[some (SV.av (.b i)), some (SV.av (.t (.int n))), some (SV.own (.lst ls)), none], S.set i (draw (intsD ns) p1 q1 s1), L⟩ := by
    by_cases hr : r = 0
    · subst hr
      refine ⟨_, ?_, ?_, letters_alpha [97, 98, 99, 100, 101, 102, 103, 104, 105, 106, 107] (by decide), ?_⟩
      · decide
      · decide
      · unfold G_law_letters_s1 G_law_letters_s2
        simp only [ev_getV, ev_kGet, ev_kGetO, ev_pure, ev_frz, ev_kFrz, ev_kFrzL, ev_kFrzD, ev_kFrzX, ev_se, ev_kSe, ev_kSeX, ev_st, ev_kStT, ev_kStB, ev_e1, ev_kE1, ev_e2, ev_kE2, ev_eL, ev_kEL, ev_nil, ev_cons, ev_kCons, ev_kCons2, ev_boolR, ev_kBoolR, ev_notB, ev_kNot, ev_andB, ev_kAndT, ev_kAndF, ev_orB, ev_kOrT, ev_kOrF, ev_band, ev_kBandT, ev_kBandF, ev_bor, ev_kBorT, ev_kBorF, ev_t1, ev_kT1n, ev_ifE, ev_kIfT, ev_kIfF, ev_callE, ev_call1, ev_call1b, ev_call2, ev_call2b, ev_call3, ev_call3b, ev_kCallT, ev_kCallO, ev_kCallX, ev_noPart, ev_intPart, ev_kPart, ev_eS, ev_kSl1, ev_kSl2, ev_kSl3, ev_lst, ev_tup, ev_tup0, ev_tup1, ev_tup2, ev_tup3, ev_tup4, ev_lst0, ev_lst1, ev_lst2, ev_lst3, ev_lst4, ev_eMt, ev_kMt, ev_seq, ev_kSeqN, ev_kSeqR, ev_kSeqX, ev_kSeqB, ev_kSeqC, ev_ret, ev_kRetT, ev_kRetO, ev_kRetX, ev_ifS, ev_kIfST, ev_kIfSF, ev_nx, ev_set, ev_kSetT, ev_own, ev_kOwn, ev_box, ev_kBox, ev_drop, ev_kDrop, ev_setIx, ev_kSetIx1, ev_kSetIx2, ev_kSetIx3, ev_kSetIx4, ev_par, ev_kPar, ev_asg, ev_kAsg, ev_for, ev_kFor, ev_it, ev_kItT, ev_kItL, ev_kItS, ev_rng1, ev_kRng1, ev_lc, List.getElem?_cons_zero, List.getElem?_cons_succ, List.set_cons_zero, List.set_cons_succ, slots, List.map_cons, List.map_nil, List.length_cons, List.length_nil, List.replicate_succ, List.replicate_zero, List.cons_append, List.nil_append, List.append_nil, Nat.reduceSub, Nat.reduceAdd, Nat.zero_add, Nat.sub_self, Nat.sub_zero, Nat.reduceLeDiff, okD, okD?, add_r, lt_r, ge_r, gt_r, le_r, sub_r, len_l, len_t, neg_r, Bool.not_true, Bool.not_false, list_s [97, 98, 99, 100, 101, 102, 103, 104, 105, 106, 107, 108, 109, 110, 111, 112, 113, 114, 115, 116, 117, 118, 119, 120, 121, 122] _ rfl, list_s [97, 98, 99, 100, 101, 102, 103, 104, 105, 106, 107] _ rfl, e1, eq_i, decide_true, own_42]
    · refine ⟨_, ?_, ?_, letters_alpha [97, 98, 99, 100, 101, 102, 103, 104, 105, 106, 107, 108, 109, 110, 111, 112, 113, 114, 115, 116, 117, 118, 119, 120, 121, 122] (by decide), ?_⟩
      · decide
      · decide
      · unfold G_law_letters_s1 G_law_letters_s2
        simp only [ev_getV, ev_kGet, ev_kGetO, ev_pure, ev_frz, ev_kFrz, ev_kFrzL, ev_kFrzD, ev_kFrzX, ev_se, ev_kSe, ev_kSeX, ev_st, ev_kStT, ev_kStB, ev_e1, ev_kE1, ev_e2, ev_kE2, ev_eL, ev_kEL, ev_nil, ev_cons, ev_kCons, ev_kCons2, ev_boolR, ev_kBoolR, ev_notB, ev_kNot, ev_andB, ev_kAndT, ev_kAndF, ev_orB, ev_kOrT, ev_kOrF, ev_band, ev_kBandT, ev_kBandF, ev_bor, ev_kBorT, ev_kBorF, ev_t1, ev_kT1n, ev_ifE, ev_kIfT, ev_kIfF, ev_callE, ev_call1, ev_call1b, ev_call2, ev_call2b, ev_call3, ev_call3b, ev_kCallT, ev_kCallO, ev_kCallX, ev_noPart, ev_intPart, ev_kPart, ev_eS, ev_kSl1, ev_kSl2, ev_kSl3, ev_lst, ev_tup, ev_tup0, ev_tup1, ev_tup2, ev_tup3, ev_tup4, ev_lst0, ev_lst1, ev_lst2, ev_lst3, ev_lst4, ev_eMt, ev_kMt, ev_seq, ev_kSeqN, ev_kSeqR, ev_kSeqX, ev_kSeqB, ev_kSeqC, ev_ret, ev_kRetT, ev_kRetO, ev_kRetX, ev_ifS, ev_kIfST, ev_kIfSF, ev_nx, ev_set, ev_kSetT, ev_own, ev_kOwn, ev_box, ev_kBox, ev_drop, ev_kDrop, ev_setIx, ev_kSetIx1, ev_kSetIx2, ev_kSetIx3, ev_kSetIx4, ev_par, ev_kPar, ev_asg, ev_kAsg, ev_for, ev_kFor, ev_it, ev_kItT, ev_kItL, ev_kItS, ev_rng1, ev_kRng1, ev_lc, List.getElem?_cons_zero, List.getElem?_cons_succ, List.set_cons_zero, List.set_cons_succ, slots, List.map_cons, List.map_nil, List.length_cons, List.length_nil, List.replicate_succ, List.replicate_zero, List.cons_append, List.nil_append, List.append_nil, Nat.reduceSub, Nat.reduceAdd, Nat.zero_add, Nat.sub_self, Nat.sub_zero, Nat.reduceLeDiff, okD, okD?, add_r, lt_r, ge_r, gt_r, le_r, sub_r, len_l, len_t, neg_r, Bool.not_true, Bool.not_false, list_s [97, 98, 99, 100, 101, 102, 103, 104, 105, 106, 107, 108, 109, 110, 111, 112, 113, 114, 115, 116, 117, 118, 119, 120, 121, 122] _ rfl, list_s [97, 98, 99, 100, 101, 102, 103, 104, 105, 106, 107] _ rfl, e1, eq_i, decide_eq_false hr, own_42]
  obtain ⟨ls, h11, h26, hlet, e2⟩ := st2
  have inv := lc_inv (nameB 3) [3] yesT (stE G_law_letters_e1) (fun acc m => ∃ ls p q s, Good p q s ∧ 11 ≤ ls.length + acc.length ∧ ls.length ≤ 26 ∧ (∀ d ∈ ls, Letter d) ∧ (∀ d ∈ acc, Letter d) ∧ m = ⟨[some (SV.av (.b i)), some (SV.av (.t (.int n))), some (SV.own (.lst ls)), none], S.set i (draw (intsD ns) p q s), L⟩) (BL.upTo 0 n) []
    ⟨[some (SV.av (.b i)), some (SV.av (.t (.int n))), some (SV.own (.lst ls)), none], S.set i (draw (intsD ns) p1 q1 s1), L⟩ (by
      rintro d hd acc m hacc ⟨ls, p, q, s, g, h11, h26, hl, ha, rfl⟩
      rw [upTo_len] at hacc
      simp only [List.length_nil, Nat.zero_add] at hacc
      obtain ⟨r, p', q', s', hr0, hr1, g', e⟩ := pull L i ls.length ns p q s S hi g (by omega) (by omega)
      obtain ⟨k, rfl⟩ := Int.eq_ofNat_of_zero_le hr0
      have hk : k < ls.length := by omega
      refine ⟨_, _, ls[k], ⟨[some (SV.av (.b i)), some (SV.av (.t (.int n))), some (SV.own (.lst (ls.eraseIdx k))), some (SV.av (.t d))], S.set i (draw (intsD ns) p' q' s'), L⟩, name_t _ _ _ _ _, rfl, ?_, ?_⟩
      · unfold G_law_letters_e1
        have hs : ([some (SV.av (.b i)), some (SV.av (.t (.int n))), some (SV.own (.lst ls)), some (SV.av (.t d))] : List (Option SV))[2]? = some (some (SV.own (.lst ls))) := rfl
        simp only [ev_getV, ev_kGet, ev_kGetO, ev_pure, ev_frz, ev_kFrz, ev_kFrzL, ev_kFrzD, ev_kFrzX, ev_se, ev_kSe, ev_kSeX, ev_st, ev_kStT, ev_kStB, ev_e1, ev_kE1, ev_e2, ev_kE2, ev_eL, ev_kEL, ev_nil, ev_cons, ev_kCons, ev_kCons2, ev_boolR, ev_kBoolR, ev_notB, ev_kNot, ev_andB, ev_kAndT, ev_kAndF, ev_orB, ev_kOrT, ev_kOrF, ev_band, ev_kBandT, ev_kBandF, ev_bor, ev_kBorT, ev_kBorF, ev_t1, ev_kT1n, ev_ifE, ev_kIfT, ev_kIfF, ev_callE, ev_call1, ev_call1b, ev_call2, ev_call2b, ev_call3, ev_call3b, ev_kCallT, ev_kCallO, ev_kCallX, ev_noPart, ev_intPart, ev_kPart, ev_eS, ev_kSl1, ev_kSl2, ev_kSl3, ev_lst, ev_tup, ev_tup0, ev_tup1, ev_tup2, ev_tup3, ev_tup4, ev_lst0, ev_lst1, ev_lst2, ev_lst3, ev_lst4, ev_eMt, ev_kMt, ev_seq, ev_kSeqN, ev_kSeqR, ev_kSeqX, ev_kSeqB, ev_kSeqC, ev_ret, ev_kRetT, ev_kRetO, ev_kRetX, ev_ifS, ev_kIfST, ev_kIfSF, ev_nx, ev_set, ev_kSetT, ev_own, ev_kOwn, ev_box, ev_kBox, ev_drop, ev_kDrop, ev_setIx, ev_kSetIx1, ev_kSetIx2, ev_kSetIx3, ev_kSetIx4, ev_par, ev_kPar, ev_asg, ev_kAsg, ev_for, ev_kFor, ev_it, ev_kItT, ev_kItL, ev_kItS, ev_rng1, ev_kRng1, ev_lc, List.getElem?_cons_zero, List.getElem?_cons_succ, List.set_cons_zero, List.set_cons_succ, slots, List.map_cons, List.map_nil, List.length_cons, List.length_nil, List.replicate_succ, List.replicate_zero, List.cons_append, List.nil_append, List.append_nil, Nat.reduceSub, Nat.reduceAdd, Nat.zero_add, Nat.sub_self, Nat.sub_zero, Nat.reduceLeDiff, okD, okD?, add_r, lt_r, ge_r, gt_r, le_r, sub_r, len_l, len_t, neg_r, Bool.not_true, Bool.not_false, len_s _ 2 ls _ _ hs, e, pop_at _ 2 ls _ _ k hs hk (by simp [Nat.blt_eq, lim]; omega), ev_kMt _ _ _ _ _ (is_lst_s _ 2 ls _ _ hs)]
      · refine ⟨ls.eraseIdx k, p', q', s', g', ?_, ?_, fun x hx => hl x (List.mem_of_mem_eraseIdx hx), fun x hx => ?_, rfl⟩
        · rw [List.length_eraseIdx, if_pos hk, List.length_append, List.length_singleton]; omega
        · rw [List.length_eraseIdx, if_pos hk]; omega
        · rcases List.mem_append.mp hx with hx | hx
          · exact ha x hx
          · rw [List.mem_singleton.mp hx]
            exact hl _ (List.getElem_mem hk))
    ⟨ls, p1, q1, s1, g1, by simpa using h11, h26, hlet, (fun d hd => by cases hd), rfl⟩
  obtain ⟨out, m', e3, hlen, ls', p', q', s', g', _, _, _, hout, rfl⟩ := inv
  rw [upTo_len] at hlen
  refine ⟨out, p', q', s', g', by simpa using hlen, hout, ?_⟩
  have e4 : kSeq G_law_letters_s3 (seqS G_law_letters_s1 G_law_letters_s2 ⟨slots 4 [.b i, .t (.int n)], S.set i (draw (intsD ns) p q s), L⟩) = .ret (.own (.lst out)) ⟨[some (SV.av (.b i)), some (SV.av (.t (.int n))), some (SV.own (.lst ls')), none], S.set i (draw (intsD ns) p' q' s'), L⟩ := by
    rw [e2, ev_kSeqN]
    unfold G_law_letters_s3
    have ok : okI (n : Int) = true := by
      unfold okI
      rw [decide_eq_true (by omega), decide_eq_true (by omega)]; rfl
    have e5 : kLc (nameB 3) [3] yesT (stE G_law_letters_e1) (.ok (BL.upTo 0 (n : Int).toNat) ⟨[some (SV.av (.b i)), some (SV.av (.t (.int n))), some (SV.own (.lst ls)), none], S.set i (draw (intsD ns) p1 q1 s1), L⟩) = .ok (.own (.lst out)) ⟨[some (SV.av (.b i)), some (SV.av (.t (.int n))), some (SV.own (.lst ls')), none], S.set i (draw (intsD ns) p' q' s'), L⟩ :=
      ev_kLc _ _ _ _ _ _ _ _ (by rw [upTo_len]; simp [Nat.blt_eq, lim]; omega) e3
    simp only [ev_getV, ev_kGet, ev_kGetO, ev_pure, ev_frz, ev_kFrz, ev_kFrzL, ev_kFrzD, ev_kFrzX, ev_se, ev_kSe, ev_kSeX, ev_st, ev_kStT, ev_kStB, ev_e1, ev_kE1, ev_e2, ev_kE2, ev_eL, ev_kEL, ev_nil, ev_cons, ev_kCons, ev_kCons2, ev_boolR, ev_kBoolR, ev_notB, ev_kNot, ev_andB, ev_kAndT, ev_kAndF, ev_orB, ev_kOrT, ev_kOrF, ev_band, ev_kBandT, ev_kBandF, ev_bor, ev_kBorT, ev_kBorF, ev_t1, ev_kT1n, ev_ifE, ev_kIfT, ev_kIfF, ev_callE, ev_call1, ev_call1b, ev_call2, ev_call2b, ev_call3, ev_call3b, ev_kCallT, ev_kCallO, ev_kCallX, ev_noPart, ev_intPart, ev_kPart, ev_eS, ev_kSl1, ev_kSl2, ev_kSl3, ev_lst, ev_tup, ev_tup0, ev_tup1, ev_tup2, ev_tup3, ev_tup4, ev_lst0, ev_lst1, ev_lst2, ev_lst3, ev_lst4, ev_eMt, ev_kMt, ev_seq, ev_kSeqN, ev_kSeqR, ev_kSeqX, ev_kSeqB, ev_kSeqC, ev_ret, ev_kRetT, ev_kRetO, ev_kRetX, ev_ifS, ev_kIfST, ev_kIfSF, ev_nx, ev_set, ev_kSetT, ev_own, ev_kOwn, ev_box, ev_kBox, ev_drop, ev_kDrop, ev_setIx, ev_kSetIx1, ev_kSetIx2, ev_kSetIx3, ev_kSetIx4, ev_par, ev_kPar, ev_asg, ev_kAsg, ev_for, ev_kFor, ev_it, ev_kItT, ev_kItL, ev_kItS, ev_rng1, ev_kRng1, ev_lc, List.getElem?_cons_zero, List.getElem?_cons_succ, List.set_cons_zero, List.set_cons_succ, slots, List.map_cons, List.map_nil, List.length_cons, List.length_nil, List.replicate_succ, List.replicate_zero, List.cons_append, List.nil_append, List.append_nil, Nat.reduceSub, Nat.reduceAdd, Nat.zero_add, Nat.sub_self, Nat.sub_zero, Nat.reduceLeDiff, okD, okD?, add_r, lt_r, ge_r, gt_r, le_r, sub_r, len_l, len_t, neg_r, Bool.not_true, Bool.not_false, ev_kRng1 _ _ ok, e5]
  rw [show seqS G_law_letters_s1 (seqS G_law_letters_s2 G_law_letters_s3) ⟨slots 4 [.b i, .t (.int n)], S.set i (draw (intsD ns) p q s), L⟩ = kSeq G_law_letters_s3 (seqS G_law_letters_s1 G_law_letters_s2 ⟨slots 4 [.b i, .t (.int n)], S.set i (draw (intsD ns) p q s), L⟩) from by
    rw [ev_seq, ev_seq]
    cases G_law_letters_s1 ⟨slots 4 [.b i, .t (.int n)], S.set i (draw (intsD ns) p q s), L⟩ <;> first | rfl | (simp only [ev_kSeqN, ev_seq])]
  rw [e4]
  exact ofS_lst _ _ _ _ _ (by rw [List.length_set, List.length_set])

end Lm
end part_Lc3_k22

section part_Ld1_k22
set_option Elab.async false
set_option linter.all false
set_option maxRecDepth 100000
set_option maxHeartbeats 8000000
set_option autoImplicit false
open PySem BL Lw
namespace Lm
/-! ### trees of texts, ints, tuples -/
inductive Tre : Nat → D → Prop
  | str {n : Nat} {x : List Nat} : sg x = true → x.length ≤ 100 → Tre n (.str x)
  | int {n : Nat} {i : Int} : Tre n (.int i)
  | tup {n : Nat} {xs : List D} : xs.length ≤ 100 → (∀ x ∈ xs, Tre n x) → Tre (n + 1) (.tup xs)
theorem Tre.mono {n m : Nat} {d : D} (h : Tre n d) (hm : n ≤ m) : Tre m d := by
  induction h generalizing m with
  | str h1 h2 => exact .str h1 h2
  | int => exact .int
  | tup h1 _ ih =>
    cases m with
    | zero => omega
    | succ m => exact .tup h1 fun x hx => ih x hx (by omega)
theorem isi_s (T : Ty) (x : List Nat) (m : M) : isiF T (.t (.str x)) m = .ok (.av (.t (.bl (Ty.str.sub T)))) m := rfl
theorem isi_i (T : Ty) (x : Int) (m : M) : isiF T (.t (.int x)) m = .ok (.av (.t (.bl (Ty.int.sub T)))) m := rfl
theorem isi_t (T : Ty) (x : List D) (m : M) : isiF T (.t (.tup x)) m = .ok (.av (.t (.bl (Ty.tup.sub T)))) m := rfl
theorem isi_n (T : Ty) (m : M) : isiF T (.t .non) m = .ok (.av (.t (.bl (Ty.non.sub T)))) m := rfl
theorem isi_l (T : Ty) (x : List D) (m : M) : isiF T (.t (.lst x)) m = .ok (.av (.t (.bl (Ty.lst.sub T)))) m := rfl
theorem blt_100 {n : Nat} (h : n ≤ 100) : Nat.blt n lim = true := by
  rw [Nat.blt_eq]; unfold lim; omega
theorem len_st (x : List Nat) (m : M) (h : x.length ≤ 100) : lenF [.t (.str x)] m = .ok (.av (.t (.int x.length))) m := by
  simp only [lenF, blt_100 h, okD]
theorem ix_0 (x : D) (xs : List D) (m : M) : ixF (.t (.tup (x :: xs))) (.t (.int 0)) m = .ok (.av (.t x)) m := ix_t _ _ _ _ (by
  have := atI_nat (x :: xs) 0 (by simp)
  simpa using this)
theorem ix_1 (x y : D) (xs : List D) (m : M) : ixF (.t (.tup (x :: y :: xs))) (.t (.int 1)) m = .ok (.av (.t y)) m := ix_t _ _ _ _ (by
  have := atI_nat (x :: y :: xs) 1 (by simp)
  simpa using this)
theorem cut_1 {α : Type} (x : α) (xs : List α) : cutL (x :: xs) (some 1) none = xs := by
  unfold cutL
  have h1 : HT.sIx (x :: xs).length 0 (some 1) = 1 := by
    unfold HT.sIx
    simp
  have h2 : HT.sIx (x :: xs).length (x :: xs).length none = (x :: xs).length := rfl
  rw [h1, h2]
  simp
theorem sl_1 (x : D) (xs : List D) (m : M) : slF (some 1) none (.t (.tup (x :: xs))) m = .ok (.av (.t (.tup xs))) m := by
  rw [sl_t, cut_1]
theorem set_same {j : Nat} {s : List (Option SV)} (h : s[j]? = some none) (x : Option SV) : (s.set j x).set j none = s := by
  rw [List.set_set]
  exact (List.ext_getElem? fun i => by
    by_cases e : j = i
    · subst e
      have hj : j < s.length := (List.getElem?_eq_some_iff.mp h).1
      rw [List.getElem?_set_self hj, h]
    · rw [List.getElem?_set_ne e])
theorem lc_map (j : Nat) (F : Ex AV) (f : D → D) (s : List (Option SV)) (S : List Cell) (b : Nat) (hs : s[j]? = some none) : ∀ (ds acc : List D), (∀ d ∈ ds, F ⟨s.set j (some (.av (.t d))), S, b⟩ = .ok (.t (f d)) ⟨s.set j (some (.av (.t d))), S, b⟩) → lcGo (nameB j) [j] yesT F ds acc ⟨s, S, b⟩ = .ok (acc ++ ds.map f) ⟨s, S, b⟩
  | [], acc, _ => by rw [List.map_nil, List.append_nil]; rfl
  | d :: ds, acc, h => by
    unfold lcGo
    rw [name_t]
    dsimp only
    unfold yesT
    dsimp only
    rw [h d List.mem_cons_self]
    dsimp only
    have e : wipeM [j] ⟨s.set j (some (.av (.t d))), S, b⟩ = ⟨s, S, b⟩ := by
      show (⟨(s.set j (some (.av (.t d)))).set j none, S, b⟩ : M) = _
      rw [set_same hs]
    rw [e]
    have ih := lc_map j F f s S b hs ds (acc ++ [f d]) fun x hx => h x (List.mem_cons_of_mem _ hx)
    unfold yesT at ih
    rw [ih, List.map_cons, List.append_assoc]
    rfl
theorem lc_ok (j : Nat) (F : Ex AV) (f : D → D) (s : List (Option SV)) (S : List Cell) (b : Nat) (hs : s[j]? = some none) (ds : List D) (hl : ds.length ≤ 100) (h : ∀ d ∈ ds, F ⟨s.set j (some (.av (.t d))), S, b⟩ = .ok (.t (f d)) ⟨s.set j (some (.av (.t d))), S, b⟩) : kLc (nameB j) [j] yesT F (.ok ds ⟨s, S, b⟩) = .ok (.own (.lst (ds.map f))) ⟨s, S, b⟩ := by
  refine ev_kLc _ _ _ _ _ _ _ _ (blt_100 hl) ?_
  have e : wipeM [j] ⟨s, S, b⟩ = ⟨s, S, b⟩ := by
    show (⟨s.set j none, S, b⟩ : M) = _
    have := set_same hs none
    rw [List.set_set] at this
    rw [this]
  rw [e]
  exact lc_map j F f s S b hs ds [] h
/-! ### beads, forms -/
def isBead : D → Bool
  | .str [c] => decide (c ∈ [97, 98, 99, 100, 101, 102, 103, 104, 105, 106, 107, 108, 109, 110, 111, 112, 113, 114, 115, 116, 117, 118, 119, 120, 121, 122])
  | _ => false
theorem is_bead {n : Nat} {d : D} (h : Tre n d) (b : Nat) (S : List Cell) : S_is_bead b [.t d] S = .ret (.av (.t (.bl (isBead d)))) S := by
  rw [S_is_bead, mkT_of, G_is_bead]
  unfold G_is_bead_s1
  cases h with
  | @str n x h1 h2 =>
    by_cases hx : x.length = 1
    · obtain ⟨c, rfl⟩ := List.length_eq_one_iff.mp hx
      have hd : decide (((1 : Nat) : Int) = 1) = true := rfl
      simp only [ev_getV, ev_kGet, ev_kGetO, ev_pure, ev_frz, ev_kFrz, ev_kFrzL, ev_kFrzD, ev_kFrzX, ev_se, ev_kSe, ev_kSeX, ev_st, ev_kStT, ev_kStB, ev_e1, ev_kE1, ev_e2, ev_kE2, ev_eL, ev_kEL, ev_nil, ev_cons, ev_kCons, ev_kCons2, ev_boolR, ev_kBoolR, ev_notB, ev_kNot, ev_andB, ev_kAndT, ev_kAndF, ev_orB, ev_kOrT, ev_kOrF, ev_band, ev_kBandT, ev_kBandF, ev_bor, ev_kBorT, ev_kBorF, ev_t1, ev_kT1n, ev_ifE, ev_kIfT, ev_kIfF, ev_callE, ev_call1, ev_call1b, ev_call2, ev_call2b, ev_call3, ev_call3b, ev_kCallT, ev_kCallO, ev_kCallX, ev_noPart, ev_intPart, ev_kPart, ev_eS, ev_kSl1, ev_kSl2, ev_kSl3, ev_lst, ev_tup, ev_tup0, ev_tup1, ev_tup2, ev_tup3, ev_tup4, ev_lst0, ev_lst1, ev_lst2, ev_lst3, ev_lst4, ev_eMt, ev_kMt, ev_seq, ev_kSeqN, ev_kSeqR, ev_kSeqX, ev_kSeqB, ev_kSeqC, ev_ret, ev_kRetT, ev_kRetO, ev_kRetX, ev_ifS, ev_kIfST, ev_kIfSF, ev_nx, ev_set, ev_kSetT, ev_own, ev_kOwn, ev_box, ev_kBox, ev_drop, ev_kDrop, ev_setIx, ev_kSetIx1, ev_kSetIx2, ev_kSetIx3, ev_kSetIx4, ev_par, ev_kPar, ev_asg, ev_kAsg, ev_for, ev_kFor, ev_it, ev_kItT, ev_kItL, ev_kItS, ev_rng1, ev_kRng1, ev_lc, List.getElem?_cons_zero, List.getElem?_cons_succ, List.set_cons_zero, List.set_cons_succ, slots, List.map_cons, List.map_nil, List.length_cons, List.length_nil, List.replicate_succ, List.replicate_zero, List.cons_append, List.nil_append, List.append_nil, Nat.reduceSub, Nat.reduceAdd, Nat.zero_add, Nat.sub_self, Nat.sub_zero, Nat.reduceLeDiff, okD, okD?, add_r, lt_r, ge_r, gt_r, le_r, sub_r, len_l, len_t, neg_r, Bool.not_true, Bool.not_false, isi_s, Ty.sub, len_st _ _ h2, eq_i, hd, in_sg]
      exact ofS_tree _ _ _ _ _ rfl
    · have hd : decide ((x.length : Int) = 1) = false := decide_eq_false (by omega)
      simp only [ev_getV, ev_kGet, ev_kGetO, ev_pure, ev_frz, ev_kFrz, ev_kFrzL, ev_kFrzD, ev_kFrzX, ev_se, ev_kSe, ev_kSeX, ev_st, ev_kStT, ev_kStB, ev_e1, ev_kE1, ev_e2, ev_kE2, ev_eL, ev_kEL, ev_nil, ev_cons, ev_kCons, ev_kCons2, ev_boolR, ev_kBoolR, ev_notB, ev_kNot, ev_andB, ev_kAndT, ev_kAndF, ev_orB, ev_kOrT, ev_kOrF, ev_band, ev_kBandT, ev_kBandF, ev_bor, ev_kBorT, ev_kBorF, ev_t1, ev_kT1n, ev_ifE, ev_kIfT, ev_kIfF, ev_callE, ev_call1, ev_call1b, ev_call2, ev_call2b, ev_call3, ev_call3b, ev_kCallT, ev_kCallO, ev_kCallX, ev_noPart, ev_intPart, ev_kPart, ev_eS, ev_kSl1, ev_kSl2, ev_kSl3, ev_lst, ev_tup, ev_tup0, ev_tup1, ev_tup2, ev_tup3, ev_tup4, ev_lst0, ev_lst1, ev_lst2, ev_lst3, ev_lst4, ev_eMt, ev_kMt, ev_seq, ev_kSeqN, ev_kSeqR, ev_kSeqX, ev_kSeqB, ev_kSeqC, ev_ret, ev_kRetT, ev_kRetO, ev_kRetX, ev_ifS, ev_kIfST, ev_kIfSF, ev_nx, ev_set, ev_kSetT, ev_own, ev_kOwn, ev_box, ev_kBox, ev_drop, ev_kDrop, ev_setIx, ev_kSetIx1, ev_kSetIx2, ev_kSetIx3, ev_kSetIx4, ev_par, ev_kPar, ev_asg, ev_kAsg, ev_for, ev_kFor, ev_it, ev_kItT, ev_kItL, ev_kItS, ev_rng1, ev_kRng1, ev_lc, List.getElem?_cons_zero, List.getElem?_cons_succ, List.set_cons_zero, List.set_cons_succ, slots, List.map_cons, List.map_nil, List.length_cons, List.length_nil, List.replicate_succ, List.replicate_zero, List.cons_append, List.nil_append, List.append_nil, Nat.reduceSub, Nat.reduceAdd, Nat.zero_add, Nat.sub_self, Nat.sub_zero, Nat.reduceLeDiff, okD, okD?, add_r, lt_r, ge_r, gt_r, le_r, sub_r, len_l, len_t, neg_r, Bool.not_true, Bool.not_false, isi_s, Ty.sub, len_st _ _ h2, eq_i, hd]
      have e : isBead (.str x) = false := by
        unfold isBead
        split
        · rename_i c q; cases q; exact absurd rfl hx
        · rfl
      rw [e]
      exact ofS_tree _ _ _ _ _ rfl
  | int =>
    simp only [ev_getV, ev_kGet, ev_kGetO, ev_pure, ev_frz, ev_kFrz, ev_kFrzL, ev_kFrzD, ev_kFrzX, ev_se, ev_kSe, ev_kSeX, ev_st, ev_kStT, ev_kStB, ev_e1, ev_kE1, ev_e2, ev_kE2, ev_eL, ev_kEL, ev_nil, ev_cons, ev_kCons, ev_kCons2, ev_boolR, ev_kBoolR, ev_notB, ev_kNot, ev_andB, ev_kAndT, ev_kAndF, ev_orB, ev_kOrT, ev_kOrF, ev_band, ev_kBandT, ev_kBandF, ev_bor, ev_kBorT, ev_kBorF, ev_t1, ev_kT1n, ev_ifE, ev_kIfT, ev_kIfF, ev_callE, ev_call1, ev_call1b, ev_call2, ev_call2b, ev_call3, ev_call3b, ev_kCallT, ev_kCallO, ev_kCallX, ev_noPart, ev_intPart, ev_kPart, ev_eS, ev_kSl1, ev_kSl2, ev_kSl3, ev_lst, ev_tup, ev_tup0, ev_tup1, ev_tup2, ev_tup3, ev_tup4, ev_lst0, ev_lst1, ev_lst2, ev_lst3, ev_lst4, ev_eMt, ev_kMt, ev_seq, ev_kSeqN, ev_kSeqR, ev_kSeqX, ev_kSeqB, ev_kSeqC, ev_ret, ev_kRetT, ev_kRetO, ev_kRetX, ev_ifS, ev_kIfST, ev_kIfSF, ev_nx, ev_set, ev_kSetT, ev_own, ev_kOwn, ev_box, ev_kBox, ev_drop, ev_kDrop, ev_setIx, ev_kSetIx1, ev_kSetIx2, ev_kSetIx3, ev_kSetIx4, ev_par, ev_kPar, ev_asg, ev_kAsg, ev_for, ev_kFor, ev_it, ev_kItT, ev_kItL, ev_kItS, ev_rng1, ev_kRng1, ev_lc, List.getElem?_cons_zero, List.getElem?_cons_succ, List.set_cons_zero, List.set_cons_succ, slots, List.map_cons, List.map_nil, List.length_cons, List.length_nil, List.replicate_succ, List.replicate_zero, List.cons_append, List.nil_append, List.append_nil, Nat.reduceSub, Nat.reduceAdd, Nat.zero_add, Nat.sub_self, Nat.sub_zero, Nat.reduceLeDiff, okD, okD?, add_r, lt_r, ge_r, gt_r, le_r, sub_r, len_l, len_t, neg_r, Bool.not_true, Bool.not_false, isi_i, Ty.sub]
    exact ofS_tree _ _ _ _ _ rfl
  | tup h1 h2 =>
    simp only [ev_getV, ev_kGet, ev_kGetO, ev_pure, ev_frz, ev_kFrz, ev_kFrzL, ev_kFrzD, ev_kFrzX, ev_se, ev_kSe, ev_kSeX, ev_st, ev_kStT, ev_kStB, ev_e1, ev_kE1, ev_e2, ev_kE2, ev_eL, ev_kEL, ev_nil, ev_cons, ev_kCons, ev_kCons2, ev_boolR, ev_kBoolR, ev_notB, ev_kNot, ev_andB, ev_kAndT, ev_kAndF, ev_orB, ev_kOrT, ev_kOrF, ev_band, ev_kBandT, ev_kBandF, ev_bor, ev_kBorT, ev_kBorF, ev_t1, ev_kT1n, ev_ifE, ev_kIfT, ev_kIfF, ev_callE, ev_call1, ev_call1b, ev_call2, ev_call2b, ev_call3, ev_call3b, ev_kCallT, ev_kCallO, ev_kCallX, ev_noPart, ev_intPart, ev_kPart, ev_eS, ev_kSl1, ev_kSl2, ev_kSl3, ev_lst, ev_tup, ev_tup0, ev_tup1, ev_tup2, ev_tup3, ev_tup4, ev_lst0, ev_lst1, ev_lst2, ev_lst3, ev_lst4, ev_eMt, ev_kMt, ev_seq, ev_kSeqN, ev_kSeqR, ev_kSeqX, ev_kSeqB, ev_kSeqC, ev_ret, ev_kRetT, ev_kRetO, ev_kRetX, ev_ifS, ev_kIfST, ev_kIfSF, ev_nx, ev_set, ev_kSetT, ev_own, ev_kOwn, ev_box, ev_kBox, ev_drop, ev_kDrop, ev_setIx, ev_kSetIx1, ev_kSetIx2, ev_kSetIx3, ev_kSetIx4, ev_par, ev_kPar, ev_asg, ev_kAsg, ev_for, ev_kFor, ev_it, ev_kItT, ev_kItL, ev_kItS, ev_rng1, ev_kRng1, ev_lc, List.getElem?_cons_zero, List.getElem?_cons_succ, List.set_cons_zero, List.set_cons_succ, slots, List.map_cons, List.map_nil, List.length_cons, List.length_nil, List.replicate_succ, List.replicate_zero, List.cons_append, List.nil_append, List.append_nil, Nat.reduceSub, Nat.reduceAdd, Nat.zero_add, Nat.sub_self, Nat.sub_zero, Nat.reduceLeDiff, okD, okD?, add_r, lt_r, ge_r, gt_r, le_r, sub_r, len_l, len_t, neg_r, Bool.not_true, Bool.not_false, isi_t, Ty.sub]
    exact ofS_tree _ _ _ _ _ rfl
def wE : List Nat := [101, 109, 112, 116, 121]
def wB : List Nat := [98, 101, 97, 100]
def wT : List Nat := [116, 104, 101, 110]
def wO : List Nat := [111, 114]
def wA : List Nat := [97, 103, 97, 105, 110]
/-- how many parts a word wants -/
def ar (w : List Nat) : Option Nat := if w = wE then some 0 else if w = wB then some 1 else if w = wT then some 2 else if w = wO then some 2 else if w = wA then some 1 else none
theorem tb_forms (w : List Nat) : (∃ f, tb_FORMS w = some (.str f) ∧ ar w = some f.length ∧ f.length ≤ 100) ∨ (tb_FORMS w = none ∧ ar w = none) := by
  by_cases h1 : w = wE
  · subst h1; exact .inl ⟨[], rfl, rfl, by decide⟩
  by_cases h2 : w = wB
  · subst h2; exact .inl ⟨[98], rfl, rfl, by decide⟩
  by_cases h3 : w = wT
  · subst h3; exact .inl ⟨[112, 112], rfl, rfl, by decide⟩
  by_cases h4 : w = wO
  · subst h4; exact .inl ⟨[112, 112], rfl, rfl, by decide⟩
  by_cases h5 : w = wA
  · subst h5; exact .inl ⟨[112], rfl, rfl, by decide⟩
  refine .inr ⟨?_, by unfold ar; rw [if_neg h1, if_neg h2, if_neg h3, if_neg h4, if_neg h5]⟩
  have k1 : (wE == w) = false := by rw [beq_eq_false_iff_ne]; exact fun e => h1 e.symm
  have k2 : (wB == w) = false := by rw [beq_eq_false_iff_ne]; exact fun e => h2 e.symm
  have k3 : (wT == w) = false := by rw [beq_eq_false_iff_ne]; exact fun e => h3 e.symm
  have k4 : (wO == w) = false := by rw [beq_eq_false_iff_ne]; exact fun e => h4 e.symm
  have k5 : (wA == w) = false := by rw [beq_eq_false_iff_ne]; exact fun e => h5 e.symm
  unfold tb_FORMS tab_FORMS
  show (List.find? (fun p : List Nat × D => p.1 == w) [(wE, _), (wB, _), (wT, _), (wO, _), (wA, _)]).map (·.2) = none
  simp only [List.find?_cons, k1, k2, k3, k4, k5, List.find?_nil, Option.map_none]
def isForm : D → Bool
  | .tup (.str w :: as) => decide (ar w = some as.length)
  | _ => false
theorem inK_s (neg : Bool) (tb : List Nat → Option D) (z : List Nat) (m : M) : BL.inK neg tb (.t (.str z)) m = .ok (.av (.t (.bl (neg != (tb z).isSome)))) m := rfl
theorem ixK_s (tb : List Nat → Option D) (z : List Nat) (v : D) (m : M) (h : tb z = some v) : BL.ixK tb (.t (.str z)) m = .ok (.av (.t v)) m := by
  simp only [BL.ixK, h, okD?, okD]
theorem is_form {n : Nat} {d : D} (h : Tre n d) (b : Nat) (S : List Cell) : S_is_form b [.t d] S = .ret (.av (.t (.bl (isForm d)))) S := by
  rw [S_is_form, mkT_of, G_is_form]
  unfold G_is_form_s1 G_is_form_s2
  cases h with
  | str h1 h2 =>
    simp only [ev_getV, ev_kGet, ev_kGetO, ev_pure, ev_frz, ev_kFrz, ev_kFrzL, ev_kFrzD, ev_kFrzX, ev_se, ev_kSe, ev_kSeX, ev_st, ev_kStT, ev_kStB, ev_e1, ev_kE1, ev_e2, ev_kE2, ev_eL, ev_kEL, ev_nil, ev_cons, ev_kCons, ev_kCons2, ev_boolR, ev_kBoolR, ev_notB, ev_kNot, ev_andB, ev_kAndT, ev_kAndF, ev_orB, ev_kOrT, ev_kOrF, ev_band, ev_kBandT, ev_kBandF, ev_bor, ev_kBorT, ev_kBorF, ev_t1, ev_kT1n, ev_ifE, ev_kIfT, ev_kIfF, ev_callE, ev_call1, ev_call1b, ev_call2, ev_call2b, ev_call3, ev_call3b, ev_kCallT, ev_kCallO, ev_kCallX, ev_noPart, ev_intPart, ev_kPart, ev_eS, ev_kSl1, ev_kSl2, ev_kSl3, ev_lst, ev_tup, ev_tup0, ev_tup1, ev_tup2, ev_tup3, ev_tup4, ev_lst0, ev_lst1, ev_lst2, ev_lst3, ev_lst4, ev_eMt, ev_kMt, ev_seq, ev_kSeqN, ev_kSeqR, ev_kSeqX, ev_kSeqB, ev_kSeqC, ev_ret, ev_kRetT, ev_kRetO, ev_kRetX, ev_ifS, ev_kIfST, ev_kIfSF, ev_nx, ev_set, ev_kSetT, ev_own, ev_kOwn, ev_box, ev_kBox, ev_drop, ev_kDrop, ev_setIx, ev_kSetIx1, ev_kSetIx2, ev_kSetIx3, ev_kSetIx4, ev_par, ev_kPar, ev_asg, ev_kAsg, ev_for, ev_kFor, ev_it, ev_kItT, ev_kItL, ev_kItS, ev_rng1, ev_kRng1, ev_lc, List.getElem?_cons_zero, List.getElem?_cons_succ, List.set_cons_zero, List.set_cons_succ, slots, List.map_cons, List.map_nil, List.length_cons, List.length_nil, List.replicate_succ, List.replicate_zero, List.cons_append, List.nil_append, List.append_nil, Nat.reduceSub, Nat.reduceAdd, Nat.zero_add, Nat.sub_self, Nat.sub_zero, Nat.reduceLeDiff, okD, okD?, add_r, lt_r, ge_r, gt_r, le_r, sub_r, len_l, len_t, neg_r, Bool.not_true, Bool.not_false, isi_s, Ty.sub]
    exact ofS_tree _ _ _ _ _ rfl
  | int =>
    simp only [ev_getV, ev_kGet, ev_kGetO, ev_pure, ev_frz, ev_kFrz, ev_kFrzL, ev_kFrzD, ev_kFrzX, ev_se, ev_kSe, ev_kSeX, ev_st, ev_kStT, ev_kStB, ev_e1, ev_kE1, ev_e2, ev_kE2, ev_eL, ev_kEL, ev_nil, ev_cons, ev_kCons, ev_kCons2, ev_boolR, ev_kBoolR, ev_notB, ev_kNot, ev_andB, ev_kAndT, ev_kAndF, ev_orB, ev_kOrT, ev_kOrF, ev_band, ev_kBandT, ev_kBandF, ev_bor, ev_kBorT, ev_kBorF, ev_t1, ev_kT1n, ev_ifE, ev_kIfT, ev_kIfF, ev_callE, ev_call1, ev_call1b, ev_call2, ev_call2b, ev_call3, ev_call3b, ev_kCallT, ev_kCallO, ev_kCallX, ev_noPart, ev_intPart, ev_kPart, ev_eS, ev_kSl1, ev_kSl2, ev_kSl3, ev_lst, ev_tup, ev_tup0, ev_tup1, ev_tup2, ev_tup3, ev_tup4, ev_lst0, ev_lst1, ev_lst2, ev_lst3, ev_lst4, ev_eMt, ev_kMt, ev_seq, ev_kSeqN, ev_kSeqR, ev_kSeqX, ev_kSeqB, ev_kSeqC, ev_ret, ev_kRetT, ev_kRetO, ev_kRetX, ev_ifS, ev_kIfST, ev_kIfSF, ev_nx, ev_set, ev_kSetT, ev_own, ev_kOwn, ev_box, ev_kBox, ev_drop, ev_kDrop, ev_setIx, ev_kSetIx1, ev_kSetIx2, ev_kSetIx3, ev_kSetIx4, ev_par, ev_kPar, ev_asg, ev_kAsg, ev_for, ev_kFor, ev_it, ev_kItT, ev_kItL, ev_kItS, ev_rng1, ev_kRng1, ev_lc, List.getElem?_cons_zero, List.getElem?_cons_succ, List.set_cons_zero, List.set_cons_succ, slots, List.map_cons, List.map_nil, List.length_cons, List.length_nil, List.replicate_succ, List.replicate_zero, List.cons_append, List.nil_append, List.append_nil, Nat.reduceSub, Nat.reduceAdd, Nat.zero_add, Nat.sub_self, Nat.sub_zero, Nat.reduceLeDiff, okD, okD?, add_r, lt_r, ge_r, gt_r, le_r, sub_r, len_l, len_t, neg_r, Bool.not_true, Bool.not_false, isi_i, Ty.sub]
    exact ofS_tree _ _ _ _ _ rfl
  | @tup n xs h1 h2 =>
    cases xs with
    | nil =>
      simp only [ev_getV, ev_kGet, ev_kGetO, ev_pure, ev_frz, ev_kFrz, ev_kFrzL, ev_kFrzD, ev_kFrzX, ev_se, ev_kSe, ev_kSeX, ev_st, ev_kStT, ev_kStB, ev_e1, ev_kE1, ev_e2, ev_kE2, ev_eL, ev_kEL, ev_nil, ev_cons, ev_kCons, ev_kCons2, ev_boolR, ev_kBoolR, ev_notB, ev_kNot, ev_andB, ev_kAndT, ev_kAndF, ev_orB, ev_kOrT, ev_kOrF, ev_band, ev_kBandT, ev_kBandF, ev_bor, ev_kBorT, ev_kBorF, ev_t1, ev_kT1n, ev_ifE, ev_kIfT, ev_kIfF, ev_callE, ev_call1, ev_call1b, ev_call2, ev_call2b, ev_call3, ev_call3b, ev_kCallT, ev_kCallO, ev_kCallX, ev_noPart, ev_intPart, ev_kPart, ev_eS, ev_kSl1, ev_kSl2, ev_kSl3, ev_lst, ev_tup, ev_tup0, ev_tup1, ev_tup2, ev_tup3, ev_tup4, ev_lst0, ev_lst1, ev_lst2, ev_lst3, ev_lst4, ev_eMt, ev_kMt, ev_seq, ev_kSeqN, ev_kSeqR, ev_kSeqX, ev_kSeqB, ev_kSeqC, ev_ret, ev_kRetT, ev_kRetO, ev_kRetX, ev_ifS, ev_kIfST, ev_kIfSF, ev_nx, ev_set, ev_kSetT, ev_own, ev_kOwn, ev_box, ev_kBox, ev_drop, ev_kDrop, ev_setIx, ev_kSetIx1, ev_kSetIx2, ev_kSetIx3, ev_kSetIx4, ev_par, ev_kPar, ev_asg, ev_kAsg, ev_for, ev_kFor, ev_it, ev_kItT, ev_kItL, ev_kItS, ev_rng1, ev_kRng1, ev_lc, List.getElem?_cons_zero, List.getElem?_cons_succ, List.set_cons_zero, List.set_cons_succ, slots, List.map_cons, List.map_nil, List.length_cons, List.length_nil, List.replicate_succ, List.replicate_zero, List.cons_append, List.nil_append, List.append_nil, Nat.reduceSub, Nat.reduceAdd, Nat.zero_add, Nat.sub_self, Nat.sub_zero, Nat.reduceLeDiff, okD, okD?, add_r, lt_r, ge_r, gt_r, le_r, sub_r, len_l, len_t, neg_r, Bool.not_true, Bool.not_false, isi_t, Ty.sub, eq_i, decide_true, Int.ofNat_zero, Int.cast_ofNat_Int, Int.natCast_zero]
      exact ofS_tree _ _ _ _ _ rfl
    | cons x as =>
      have hd : decide (((as.length + 1 : Nat) : Int) = 0) = false := decide_eq_false (by omega)
      have hx := h2 x List.mem_cons_self
      cases hx with
      | int =>
        simp only [ev_getV, ev_kGet, ev_kGetO, ev_pure, ev_frz, ev_kFrz, ev_kFrzL, ev_kFrzD, ev_kFrzX, ev_se, ev_kSe, ev_kSeX, ev_st, ev_kStT, ev_kStB, ev_e1, ev_kE1, ev_e2, ev_kE2, ev_eL, ev_kEL, ev_nil, ev_cons, ev_kCons, ev_kCons2, ev_boolR, ev_kBoolR, ev_notB, ev_kNot, ev_andB, ev_kAndT, ev_kAndF, ev_orB, ev_kOrT, ev_kOrF, ev_band, ev_kBandT, ev_kBandF, ev_bor, ev_kBorT, ev_kBorF, ev_t1, ev_kT1n, ev_ifE, ev_kIfT, ev_kIfF, ev_callE, ev_call1, ev_call1b, ev_call2, ev_call2b, ev_call3, ev_call3b, ev_kCallT, ev_kCallO, ev_kCallX, ev_noPart, ev_intPart, ev_kPart, ev_eS, ev_kSl1, ev_kSl2, ev_kSl3, ev_lst, ev_tup, ev_tup0, ev_tup1, ev_tup2, ev_tup3, ev_tup4, ev_lst0, ev_lst1, ev_lst2, ev_lst3, ev_lst4, ev_eMt, ev_kMt, ev_seq, ev_kSeqN, ev_kSeqR, ev_kSeqX, ev_kSeqB, ev_kSeqC, ev_ret, ev_kRetT, ev_kRetO, ev_kRetX, ev_ifS, ev_kIfST, ev_kIfSF, ev_nx, ev_set, ev_kSetT, ev_own, ev_kOwn, ev_box, ev_kBox, ev_drop, ev_kDrop, ev_setIx, ev_kSetIx1, ev_kSetIx2, ev_kSetIx3, ev_kSetIx4, ev_par, ev_kPar, ev_asg, ev_kAsg, ev_for, ev_kFor, ev_it, ev_kItT, ev_kItL, ev_kItS, ev_rng1, ev_kRng1, ev_lc, List.getElem?_cons_zero, List.getElem?_cons_succ, List.set_cons_zero, List.set_cons_succ, slots, List.map_cons, List.map_nil, List.length_cons, List.length_nil, List.replicate_succ, List.replicate_zero, List.cons_append, List.nil_append, List.append_nil, Nat.reduceSub, Nat.reduceAdd, Nat.zero_add, Nat.sub_self, Nat.sub_zero, Nat.reduceLeDiff, okD, okD?, add_r, lt_r, ge_r, gt_r, le_r, sub_r, len_l, len_t, neg_r, Bool.not_true, Bool.not_false, isi_t, isi_i, Ty.sub, eq_i, hd, ix_0]
        exact ofS_tree _ _ _ _ _ rfl
      | tup _ _ =>
        simp only [ev_getV, ev_kGet, ev_kGetO, ev_pure, ev_frz, ev_kFrz, ev_kFrzL, ev_kFrzD, ev_kFrzX, ev_se, ev_kSe, ev_kSeX, ev_st, ev_kStT, ev_kStB, ev_e1, ev_kE1, ev_e2, ev_kE2, ev_eL, ev_kEL, ev_nil, ev_cons, ev_kCons, ev_kCons2, ev_boolR, ev_kBoolR, ev_notB, ev_kNot, ev_andB, ev_kAndT, ev_kAndF, ev_orB, ev_kOrT, ev_kOrF, ev_band, ev_kBandT, ev_kBandF, ev_bor, ev_kBorT, ev_kBorF, ev_t1, ev_kT1n, ev_ifE, ev_kIfT, ev_kIfF, ev_callE, ev_call1, ev_call1b, ev_call2, ev_call2b, ev_call3, ev_call3b, ev_kCallT, ev_kCallO, ev_kCallX, ev_noPart, ev_intPart, ev_kPart, ev_eS, ev_kSl1, ev_kSl2, ev_kSl3, ev_lst, ev_tup, ev_tup0, ev_tup1, ev_tup2, ev_tup3, ev_tup4, ev_lst0, ev_lst1, ev_lst2, ev_lst3, ev_lst4, ev_eMt, ev_kMt, ev_seq, ev_kSeqN, ev_kSeqR, ev_kSeqX, ev_kSeqB, ev_kSeqC, ev_ret, ev_kRetT, ev_kRetO, ev_kRetX, ev_ifS, ev_kIfST, ev_kIfSF, ev_nx, ev_set, ev_kSetT, ev_own, ev_kOwn, ev_box, ev_kBox, ev_drop, ev_kDrop, ev_setIx, ev_kSetIx1, ev_kSetIx2, ev_kSetIx3, ev_kSetIx4, ev_par, ev_kPar, ev_asg, ev_kAsg, ev_for, ev_kFor, ev_it, ev_kItT, ev_kItL, ev_kItS, ev_rng1, ev_kRng1, ev_lc, List.getElem?_cons_zero, List.getElem?_cons_succ, List.set_cons_zero, List.set_cons_succ, slots, List.map_cons, List.map_nil, List.length_cons, List.length_nil, List.replicate_succ, List.replicate_zero, List.cons_append, List.nil_append, List.append_nil, Nat.reduceSub, Nat.reduceAdd, Nat.zero_add, Nat.sub_self, Nat.sub_zero, Nat.reduceLeDiff, okD, okD?, add_r, lt_r, ge_r, gt_r, le_r, sub_r, len_l, len_t, neg_r, Bool.not_true, Bool.not_false, isi_t, Ty.sub, eq_i, hd, ix_0]
        exact ofS_tree _ _ _ _ _ rfl
      | @str n w k1 k2 =>
        rcases tb_forms w with ⟨f, t1, t2, t3⟩ | ⟨t1, t2⟩
        · simp only [ev_getV, ev_kGet, ev_kGetO, ev_pure, ev_frz, ev_kFrz, ev_kFrzL, ev_kFrzD, ev_kFrzX, ev_se, ev_kSe, ev_kSeX, ev_st, ev_kStT, ev_kStB, ev_e1, ev_kE1, ev_e2, ev_kE2, ev_eL, ev_kEL, ev_nil, ev_cons, ev_kCons, ev_kCons2, ev_boolR, ev_kBoolR, ev_notB, ev_kNot, ev_andB, ev_kAndT, ev_kAndF, ev_orB, ev_kOrT, ev_kOrF, ev_band, ev_kBandT, ev_kBandF, ev_bor, ev_kBorT, ev_kBorF, ev_t1, ev_kT1n, ev_ifE, ev_kIfT, ev_kIfF, ev_callE, ev_call1, ev_call1b, ev_call2, ev_call2b, ev_call3, ev_call3b, ev_kCallT, ev_kCallO, ev_kCallX, ev_noPart, ev_intPart, ev_kPart, ev_eS, ev_kSl1, ev_kSl2, ev_kSl3, ev_lst, ev_tup, ev_tup0, ev_tup1, ev_tup2, ev_tup3, ev_tup4, ev_lst0, ev_lst1, ev_lst2, ev_lst3, ev_lst4, ev_eMt, ev_kMt, ev_seq, ev_kSeqN, ev_kSeqR, ev_kSeqX, ev_kSeqB, ev_kSeqC, ev_ret, ev_kRetT, ev_kRetO, ev_kRetX, ev_ifS, ev_kIfST, ev_kIfSF, ev_nx, ev_set, ev_kSetT, ev_own, ev_kOwn, ev_box, ev_kBox, ev_drop, ev_kDrop, ev_setIx, ev_kSetIx1, ev_kSetIx2, ev_kSetIx3, ev_kSetIx4, ev_par, ev_kPar, ev_asg, ev_kAsg, ev_for, ev_kFor, ev_it, ev_kItT, ev_kItL, ev_kItS, ev_rng1, ev_kRng1, ev_lc, List.getElem?_cons_zero, List.getElem?_cons_succ, List.set_cons_zero, List.set_cons_succ, slots, List.map_cons, List.map_nil, List.length_cons, List.length_nil, List.replicate_succ, List.replicate_zero, List.cons_append, List.nil_append, List.append_nil, Nat.reduceSub, Nat.reduceAdd, Nat.zero_add, Nat.sub_self, Nat.sub_zero, Nat.reduceLeDiff, okD, okD?, add_r, lt_r, ge_r, gt_r, le_r, sub_r, len_l, len_t, neg_r, Bool.not_true, Bool.not_false, isi_t, isi_s, Ty.sub, eq_i, hd, ix_0, inK_s, t1, Option.isSome_some, Bool.false_bne, ixK_s _ _ _ _ t1, len_st _ _ t3]
          have e : isForm (.tup (.str w :: as)) = decide (((as.length + 1 : Nat) : Int) = 1 + (f.length : Int)) := by
            show decide (ar w = some as.length) = _
            rw [t2]
            rw [Bool.eq_iff_iff, decide_eq_true_iff, decide_eq_true_iff, Option.some.injEq]
            omega
          rw [e]
          exact ofS_tree _ _ _ _ _ rfl
        · simp only [ev_getV, ev_kGet, ev_kGetO, ev_pure, ev_frz, ev_kFrz, ev_kFrzL, ev_kFrzD, ev_kFrzX, ev_se, ev_kSe, ev_kSeX, ev_st, ev_kStT, ev_kStB, ev_e1, ev_kE1, ev_e2, ev_kE2, ev_eL, ev_kEL, ev_nil, ev_cons, ev_kCons, ev_kCons2, ev_boolR, ev_kBoolR, ev_notB, ev_kNot, ev_andB, ev_kAndT, ev_kAndF, ev_orB, ev_kOrT, ev_kOrF, ev_band, ev_kBandT, ev_kBandF, ev_bor, ev_kBorT, ev_kBorF, ev_t1, ev_kT1n, ev_ifE, ev_kIfT, ev_kIfF, ev_callE, ev_call1, ev_call1b, ev_call2, ev_call2b, ev_call3, ev_call3b, ev_kCallT, ev_kCallO, ev_kCallX, ev_noPart, ev_intPart, ev_kPart, ev_eS, ev_kSl1, ev_kSl2, ev_kSl3, ev_lst, ev_tup, ev_tup0, ev_tup1, ev_tup2, ev_tup3, ev_tup4, ev_lst0, ev_lst1, ev_lst2, ev_lst3, ev_lst4, ev_eMt, ev_kMt, ev_seq, ev_kSeqN, ev_kSeqR, ev_kSeqX, ev_kSeqB, ev_kSeqC, ev_ret, ev_kRetT, ev_kRetO, ev_kRetX, ev_ifS, ev_kIfST, ev_kIfSF, ev_nx, ev_set, ev_kSetT, ev_own, ev_kOwn, ev_box, ev_kBox, ev_drop, ev_kDrop, ev_setIx, ev_kSetIx1, ev_kSetIx2, ev_kSetIx3, ev_kSetIx4, ev_par, ev_kPar, ev_asg, ev_kAsg, ev_for, ev_kFor, ev_it, ev_kItT, ev_kItL, ev_kItS, ev_rng1, ev_kRng1, ev_lc, List.getElem?_cons_zero, List.getElem?_cons_succ, List.set_cons_zero, List.set_cons_succ, slots, List.map_cons, List.map_nil, List.length_cons, List.length_nil, List.replicate_succ, List.replicate_zero, List.cons_append, List.nil_append, List.append_nil, Nat.reduceSub, Nat.reduceAdd, Nat.zero_add, Nat.sub_self, Nat.sub_zero, Nat.reduceLeDiff, okD, okD?, add_r, lt_r, ge_r, gt_r, le_r, sub_r, len_l, len_t, neg_r, Bool.not_true, Bool.not_false, isi_t, isi_s, Ty.sub, eq_i, hd, ix_0, inK_s, t1, Option.isSome_none, Bool.false_bne]
          have e : isForm (.tup (.str w :: as)) = false := by
            show decide (ar w = some as.length) = _
            rw [t2]
            exact decide_eq_false nofun
          rw [e]
          exact ofS_tree _ _ _ _ _ rfl

end Lm
end part_Ld1_k22

section part_Ld2_k22
set_option Elab.async false
set_option linter.all false
set_option maxRecDepth 100000
set_option maxHeartbeats 8000000
set_option autoImplicit false
open PySem BL Lw
namespace Lm
/-! ### measured -/
def mfold (f : D → Int → Int × Int) : List D → Int → Int → Int → Int × Int
  | [], _, many, low => (many, low)
  | a :: as, k, many, low => if (f a (k + 1)).1 = 0 then (0, k) else mfold f as k (many + (f a (k + 1)).1) (if (f a (k + 1)).2 > low then (f a (k + 1)).2 else low)
def b2i (b : Bool) : Int := if b then 1 else 0
def msr : Nat → D → Int → Int × Int
  | 0, _, k => (0, k)
  | n + 1, d, k => match isForm d, d with
    | true, .tup (.str w :: as) => if w = wB then (b2i (isBead (as.headD .non)), k) else mfold (msr n) as k 1 k
    | _, _ => (0, k)
abbrev ms (d : D) (k : Int) (a b c e g : Option SV) (S : List Cell) (L : Nat) : M := ⟨[some (.av (.t d)), some (.av (.t (.int k))), a, b, c, e, g], S, L⟩
theorem int2_max (a c : Int) (m : M) : int2F (fun i j => if j > i then j else i) [.t (.int a), .t (.int c)] m = .ok (.av (.t (.int (if c > a then c else a)))) m := rfl
theorem int_b (b : Bool) (m : M) : intF [.t (.bl b)] m = .ok (.av (.t (.int (b2i b)))) m := by cases b <;> rfl
theorem tup2B (i j : Nat) (a c : D) (s : List (Option SV)) (S : List Cell) (b : Nat) : tupB 2 (consB (nameB i) (consB (nameB j) nilB)) (.t (.tup [a, c])) ⟨s, S, b⟩ = some ⟨(s.set i (some (.av (.t a)))).set j (some (.av (.t c))), S, b⟩ := rfl
theorem asg_some (B : AV → M → Option M) (a : AV) (m m' : M) (h : B a m = some m') : kAsg B (.ok a m) = .nx m' := by
  rw [ev_kAsg, h]
theorem m_loop (self : Fn) (f : D → Int → Int × Int) (d : D) (k : Int) (S : List Cell) (L : Nat) : ∀ (as : List D), (∀ a ∈ as, ∀ k b S, self b [.t a, .t (.int k)] S = .ret (.av (.t (.tup [.int (f a k).1, .int (f a k).2]))) S) → ∀ (many low : Int) (x y z : Option SV),
    (∃ m', m'.S = S ∧ forGo (nameB 4) (G_measured_l1 self) as (ms d k (some (.av (.t (.int many)))) (some (.av (.t (.int low)))) x y z S L) = .ret (.av (.t (.tup [.int 0, .int k]))) m' ∧ mfold f as k many low = (0, k)) ∨
    (∃ x' y' z', forGo (nameB 4) (G_measured_l1 self) as (ms d k (some (.av (.t (.int many)))) (some (.av (.t (.int low)))) x y z S L) = .nx (ms d k (some (.av (.t (.int (mfold f as k many low).1)))) (some (.av (.t (.int (mfold f as k many low).2)))) x' y' z' S L))
  | [], _, many, low, x, y, z => .inr ⟨x, y, z, rfl⟩
  | a :: as, h, many, low, x, y, z => by
    have ha := h a List.mem_cons_self (k + 1)
    by_cases h0 : (f a (k + 1)).1 = 0
    · refine .inl ⟨ms d k (some (.av (.t (.int many)))) (some (.av (.t (.int low)))) (some (.av (.t a))) (some (.av (.t (.int (f a (k + 1)).1)))) (some (.av (.t (.int (f a (k + 1)).2)))) S L, rfl, ?_, by unfold mfold; rw [if_pos h0]⟩
      have e : G_measured_l1 self ⟨([some (.av (.t d)), some (.av (.t (.int k))), some (.av (.t (.int many))), some (.av (.t (.int low))), x, y, z] : List (Option SV)).set 4 (some (.av (.t a))), S, L⟩ = .ret (.av (.t (.tup [.int 0, .int k]))) (ms d k (some (.av (.t (.int many)))) (some (.av (.t (.int low)))) (some (.av (.t a))) (some (.av (.t (.int (f a (k + 1)).1)))) (some (.av (.t (.int (f a (k + 1)).2)))) S L) := by
        unfold G_measured_l1 G_measured_l1_s1 G_measured_l1_s2 G_measured_l1_s3 ms
        simp only [ev_getV, ev_kGet, ev_kGetO, ev_pure, ev_frz, ev_kFrz, ev_kFrzL, ev_kFrzD, ev_kFrzX, ev_se, ev_kSe, ev_kSeX, ev_st, ev_kStT, ev_kStB, ev_e1, ev_kE1, ev_e2, ev_kE2, ev_eL, ev_kEL, ev_nil, ev_cons, ev_kCons, ev_kCons2, ev_boolR, ev_kBoolR, ev_notB, ev_kNot, ev_andB, ev_kAndT, ev_kAndF, ev_orB, ev_kOrT, ev_kOrF, ev_band, ev_kBandT, ev_kBandF, ev_bor, ev_kBorT, ev_kBorF, ev_t1, ev_kT1n, ev_ifE, ev_kIfT, ev_kIfF, ev_callE, ev_call1, ev_call1b, ev_call2, ev_call2b, ev_call3, ev_call3b, ev_kCallT, ev_kCallO, ev_kCallX, ev_noPart, ev_intPart, ev_kPart, ev_eS, ev_kSl1, ev_kSl2, ev_kSl3, ev_lst, ev_tup, ev_tup0, ev_tup1, ev_tup2, ev_tup3, ev_tup4, ev_lst0, ev_lst1, ev_lst2, ev_lst3, ev_lst4, ev_eMt, ev_kMt, ev_seq, ev_kSeqN, ev_kSeqR, ev_kSeqX, ev_kSeqB, ev_kSeqC, ev_ret, ev_kRetT, ev_kRetO, ev_kRetX, ev_ifS, ev_kIfST, ev_kIfSF, ev_nx, ev_set, ev_kSetT, ev_own, ev_kOwn, ev_box, ev_kBox, ev_drop, ev_kDrop, ev_setIx, ev_kSetIx1, ev_kSetIx2, ev_kSetIx3, ev_kSetIx4, ev_par, ev_kPar, ev_asg, ev_kAsg, ev_for, ev_kFor, ev_it, ev_kItT, ev_kItL, ev_kItS, ev_rng1, ev_kRng1, ev_lc, List.getElem?_cons_zero, List.getElem?_cons_succ, List.set_cons_zero, List.set_cons_succ, slots, List.map_cons, List.map_nil, List.length_cons, List.length_nil, List.replicate_succ, List.replicate_zero, List.cons_append, List.nil_append, List.append_nil, Nat.reduceSub, Nat.reduceAdd, Nat.zero_add, Nat.sub_self, Nat.sub_zero, Nat.reduceLeDiff, okD, okD?, add_r, lt_r, ge_r, gt_r, le_r, sub_r, len_l, len_t, neg_r, Bool.not_true, Bool.not_false, ha, asg_some _ _ _ _ (tup2B 5 6 _ _ _ _ _), eq_i, decide_eq_true h0]
      exact forGo_ret (name_t _ _ _ _ _) e
    · have e : G_measured_l1 self ⟨([some (.av (.t d)), some (.av (.t (.int k))), some (.av (.t (.int many))), some (.av (.t (.int low))), x, y, z] : List (Option SV)).set 4 (some (.av (.t a))), S, L⟩ = .nx (ms d k (some (.av (.t (.int (many + (f a (k + 1)).1))))) (some (.av (.t (.int (if (f a (k + 1)).2 > low then (f a (k + 1)).2 else low))))) (some (.av (.t a))) (some (.av (.t (.int (f a (k + 1)).1)))) (some (.av (.t (.int (f a (k + 1)).2)))) S L) := by
        unfold G_measured_l1 G_measured_l1_s1 G_measured_l1_s2 G_measured_l1_s3 ms
        simp only [ev_getV, ev_kGet, ev_kGetO, ev_pure, ev_frz, ev_kFrz, ev_kFrzL, ev_kFrzD, ev_kFrzX, ev_se, ev_kSe, ev_kSeX, ev_st, ev_kStT, ev_kStB, ev_e1, ev_kE1, ev_e2, ev_kE2, ev_eL, ev_kEL, ev_nil, ev_cons, ev_kCons, ev_kCons2, ev_boolR, ev_kBoolR, ev_notB, ev_kNot, ev_andB, ev_kAndT, ev_kAndF, ev_orB, ev_kOrT, ev_kOrF, ev_band, ev_kBandT, ev_kBandF, ev_bor, ev_kBorT, ev_kBorF, ev_t1, ev_kT1n, ev_ifE, ev_kIfT, ev_kIfF, ev_callE, ev_call1, ev_call1b, ev_call2, ev_call2b, ev_call3, ev_call3b, ev_kCallT, ev_kCallO, ev_kCallX, ev_noPart, ev_intPart, ev_kPart, ev_eS, ev_kSl1, ev_kSl2, ev_kSl3, ev_lst, ev_tup, ev_tup0, ev_tup1, ev_tup2, ev_tup3, ev_tup4, ev_lst0, ev_lst1, ev_lst2, ev_lst3, ev_lst4, ev_eMt, ev_kMt, ev_seq, ev_kSeqN, ev_kSeqR, ev_kSeqX, ev_kSeqB, ev_kSeqC, ev_ret, ev_kRetT, ev_kRetO, ev_kRetX, ev_ifS, ev_kIfST, ev_kIfSF, ev_nx, ev_set, ev_kSetT, ev_own, ev_kOwn, ev_box, ev_kBox, ev_drop, ev_kDrop, ev_setIx, ev_kSetIx1, ev_kSetIx2, ev_kSetIx3, ev_kSetIx4, ev_par, ev_kPar, ev_asg, ev_kAsg, ev_for, ev_kFor, ev_it, ev_kItT, ev_kItL, ev_kItS, ev_rng1, ev_kRng1, ev_lc, List.getElem?_cons_zero, List.getElem?_cons_succ, List.set_cons_zero, List.set_cons_succ, slots, List.map_cons, List.map_nil, List.length_cons, List.length_nil, List.replicate_succ, List.replicate_zero, List.cons_append, List.nil_append, List.append_nil, Nat.reduceSub, Nat.reduceAdd, Nat.zero_add, Nat.sub_self, Nat.sub_zero, Nat.reduceLeDiff, okD, okD?, add_r, lt_r, ge_r, gt_r, le_r, sub_r, len_l, len_t, neg_r, Bool.not_true, Bool.not_false, ha, asg_some _ _ _ _ (tup2B 5 6 _ _ _ _ _), eq_i, decide_eq_false h0, int2_max]
      have ih := m_loop self f d k S L as (fun a ha => h a (List.mem_cons_of_mem _ ha)) (many + (f a (k + 1)).1) (if (f a (k + 1)).2 > low then (f a (k + 1)).2 else low) (some (.av (.t a))) (some (.av (.t (.int (f a (k + 1)).1)))) (some (.av (.t (.int (f a (k + 1)).2))))
      have st : forGo (nameB 4) (G_measured_l1 self) (a :: as) (ms d k (some (.av (.t (.int many)))) (some (.av (.t (.int low)))) x y z S L) = forGo (nameB 4) (G_measured_l1 self) as (ms d k (some (.av (.t (.int (many + (f a (k + 1)).1))))) (some (.av (.t (.int (if (f a (k + 1)).2 > low then (f a (k + 1)).2 else low))))) (some (.av (.t a))) (some (.av (.t (.int (f a (k + 1)).1)))) (some (.av (.t (.int (f a (k + 1)).2)))) S L) := by
        exact forGo_nx (name_t _ _ _ _ _) e
      have mf : mfold f (a :: as) k many low = mfold f as k (many + (f a (k + 1)).1) (if (f a (k + 1)).2 > low then (f a (k + 1)).2 else low) := by
        rw [mfold, if_neg h0]
      rw [st, mf]
      exact ih
theorem measured : ∀ (n : Nat) (d : D), Tre n d → ∀ (k : Int) (b : Nat) (S : List Cell), S_measured (n + 1) b [.t d, .t (.int k)] S = .ret (.av (.t (.tup [.int (msr (n + 1) d k).1, .int (msr (n + 1) d k).2]))) S := by
  intro n
  induction n with
  | zero =>
    intro d h k b S
    have e := is_form h S.length S
    have nf : isForm d = false := by cases h <;> rfl
    rw [S_measured, mkT_of, G_measured]
    unfold G_measured_s1
    rw [nf] at e
    simp only [ev_getV, ev_kGet, ev_kGetO, ev_pure, ev_frz, ev_kFrz, ev_kFrzL, ev_kFrzD, ev_kFrzX, ev_se, ev_kSe, ev_kSeX, ev_st, ev_kStT, ev_kStB, ev_e1, ev_kE1, ev_e2, ev_kE2, ev_eL, ev_kEL, ev_nil, ev_cons, ev_kCons, ev_kCons2, ev_boolR, ev_kBoolR, ev_notB, ev_kNot, ev_andB, ev_kAndT, ev_kAndF, ev_orB, ev_kOrT, ev_kOrF, ev_band, ev_kBandT, ev_kBandF, ev_bor, ev_kBorT, ev_kBorF, ev_t1, ev_kT1n, ev_ifE, ev_kIfT, ev_kIfF, ev_callE, ev_call1, ev_call1b, ev_call2, ev_call2b, ev_call3, ev_call3b, ev_kCallT, ev_kCallO, ev_kCallX, ev_noPart, ev_intPart, ev_kPart, ev_eS, ev_kSl1, ev_kSl2, ev_kSl3, ev_lst, ev_tup, ev_tup0, ev_tup1, ev_tup2, ev_tup3, ev_tup4, ev_lst0, ev_lst1, ev_lst2, ev_lst3, ev_lst4, ev_eMt, ev_kMt, ev_seq, ev_kSeqN, ev_kSeqR, ev_kSeqX, ev_kSeqB, ev_kSeqC, ev_ret, ev_kRetT, ev_kRetO, ev_kRetX, ev_ifS, ev_kIfST, ev_kIfSF, ev_nx, ev_set, ev_kSetT, ev_own, ev_kOwn, ev_box, ev_kBox, ev_drop, ev_kDrop, ev_setIx, ev_kSetIx1, ev_kSetIx2, ev_kSetIx3, ev_kSetIx4, ev_par, ev_kPar, ev_asg, ev_kAsg, ev_for, ev_kFor, ev_it, ev_kItT, ev_kItL, ev_kItS, ev_rng1, ev_kRng1, ev_lc, List.getElem?_cons_zero, List.getElem?_cons_succ, List.set_cons_zero, List.set_cons_succ, slots, List.map_cons, List.map_nil, List.length_cons, List.length_nil, List.replicate_succ, List.replicate_zero, List.cons_append, List.nil_append, List.append_nil, Nat.reduceSub, Nat.reduceAdd, Nat.zero_add, Nat.sub_self, Nat.sub_zero, Nat.reduceLeDiff, okD, okD?, add_r, lt_r, ge_r, gt_r, le_r, sub_r, len_l, len_t, neg_r, Bool.not_true, Bool.not_false, e]
    have e2 : msr 1 d k = (0, k) := by unfold msr; rw [nf]
    rw [e2]
    exact ofS_tree _ _ _ _ _ rfl
  | succ n ih =>
    intro d h k b S
    have e := is_form h S.length S
    rw [S_measured, mkT_of, G_measured]
    cases hf : isForm d with
    | false =>
      rw [hf] at e
      unfold G_measured_s1
      simp only [ev_getV, ev_kGet, ev_kGetO, ev_pure, ev_frz, ev_kFrz, ev_kFrzL, ev_kFrzD, ev_kFrzX, ev_se, ev_kSe, ev_kSeX, ev_st, ev_kStT, ev_kStB, ev_e1, ev_kE1, ev_e2, ev_kE2, ev_eL, ev_kEL, ev_nil, ev_cons, ev_kCons, ev_kCons2, ev_boolR, ev_kBoolR, ev_notB, ev_kNot, ev_andB, ev_kAndT, ev_kAndF, ev_orB, ev_kOrT, ev_kOrF, ev_band, ev_kBandT, ev_kBandF, ev_bor, ev_kBorT, ev_kBorF, ev_t1, ev_kT1n, ev_ifE, ev_kIfT, ev_kIfF, ev_callE, ev_call1, ev_call1b, ev_call2, ev_call2b, ev_call3, ev_call3b, ev_kCallT, ev_kCallO, ev_kCallX, ev_noPart, ev_intPart, ev_kPart, ev_eS, ev_kSl1, ev_kSl2, ev_kSl3, ev_lst, ev_tup, ev_tup0, ev_tup1, ev_tup2, ev_tup3, ev_tup4, ev_lst0, ev_lst1, ev_lst2, ev_lst3, ev_lst4, ev_eMt, ev_kMt, ev_seq, ev_kSeqN, ev_kSeqR, ev_kSeqX, ev_kSeqB, ev_kSeqC, ev_ret, ev_kRetT, ev_kRetO, ev_kRetX, ev_ifS, ev_kIfST, ev_kIfSF, ev_nx, ev_set, ev_kSetT, ev_own, ev_kOwn, ev_box, ev_kBox, ev_drop, ev_kDrop, ev_setIx, ev_kSetIx1, ev_kSetIx2, ev_kSetIx3, ev_kSetIx4, ev_par, ev_kPar, ev_asg, ev_kAsg, ev_for, ev_kFor, ev_it, ev_kItT, ev_kItL, ev_kItS, ev_rng1, ev_kRng1, ev_lc, List.getElem?_cons_zero, List.getElem?_cons_succ, List.set_cons_zero, List.set_cons_succ, slots, List.map_cons, List.map_nil, List.length_cons, List.length_nil, List.replicate_succ, List.replicate_zero, List.cons_append, List.nil_append, List.append_nil, Nat.reduceSub, Nat.reduceAdd, Nat.zero_add, Nat.sub_self, Nat.sub_zero, Nat.reduceLeDiff, okD, okD?, add_r, lt_r, ge_r, gt_r, le_r, sub_r, len_l, len_t, neg_r, Bool.not_true, Bool.not_false, e]
      have e2 : msr (n + 2) d k = (0, k) := by unfold msr; rw [hf]
      rw [e2]
      exact ofS_tree _ _ _ _ _ rfl
    | true =>
      rw [hf] at e
      cases h with
      | str _ _ => cases hf
      | int => cases hf
      | @tup n xs h1 h2 =>
        cases xs with
        | nil => cases hf
        | cons x as =>
          have hx := h2 x List.mem_cons_self
          cases x with
          | str w =>
            cases hx with
            | str k1 k2 =>
              have hs1 : G_measured_s1 (S_measured (n + 1)) ⟨slots 7 [.t (.tup (.str w :: as)), .t (.int k)], S, S.length⟩ = .nx (ms (.tup (.str w :: as)) k none none none none none S S.length) := by
                unfold G_measured_s1 ms
                simp only [ev_getV, ev_kGet, ev_kGetO, ev_pure, ev_frz, ev_kFrz, ev_kFrzL, ev_kFrzD, ev_kFrzX, ev_se, ev_kSe, ev_kSeX, ev_st, ev_kStT, ev_kStB, ev_e1, ev_kE1, ev_e2, ev_kE2, ev_eL, ev_kEL, ev_nil, ev_cons, ev_kCons, ev_kCons2, ev_boolR, ev_kBoolR, ev_notB, ev_kNot, ev_andB, ev_kAndT, ev_kAndF, ev_orB, ev_kOrT, ev_kOrF, ev_band, ev_kBandT, ev_kBandF, ev_bor, ev_kBorT, ev_kBorF, ev_t1, ev_kT1n, ev_ifE, ev_kIfT, ev_kIfF, ev_callE, ev_call1, ev_call1b, ev_call2, ev_call2b, ev_call3, ev_call3b, ev_kCallT, ev_kCallO, ev_kCallX, ev_noPart, ev_intPart, ev_kPart, ev_eS, ev_kSl1, ev_kSl2, ev_kSl3, ev_lst, ev_tup, ev_tup0, ev_tup1, ev_tup2, ev_tup3, ev_tup4, ev_lst0, ev_lst1, ev_lst2, ev_lst3, ev_lst4, ev_eMt, ev_kMt, ev_seq, ev_kSeqN, ev_kSeqR, ev_kSeqX, ev_kSeqB, ev_kSeqC, ev_ret, ev_kRetT, ev_kRetO, ev_kRetX, ev_ifS, ev_kIfST, ev_kIfSF, ev_nx, ev_set, ev_kSetT, ev_own, ev_kOwn, ev_box, ev_kBox, ev_drop, ev_kDrop, ev_setIx, ev_kSetIx1, ev_kSetIx2, ev_kSetIx3, ev_kSetIx4, ev_par, ev_kPar, ev_asg, ev_kAsg, ev_for, ev_kFor, ev_it, ev_kItT, ev_kItL, ev_kItS, ev_rng1, ev_kRng1, ev_lc, List.getElem?_cons_zero, List.getElem?_cons_succ, List.set_cons_zero, List.set_cons_succ, slots, List.map_cons, List.map_nil, List.length_cons, List.length_nil, List.replicate_succ, List.replicate_zero, List.cons_append, List.nil_append, List.append_nil, Nat.reduceSub, Nat.reduceAdd, Nat.zero_add, Nat.sub_self, Nat.sub_zero, Nat.reduceLeDiff, okD, okD?, add_r, lt_r, ge_r, gt_r, le_r, sub_r, len_l, len_t, neg_r, Bool.not_true, Bool.not_false, e]
              by_cases hw : w = wB
              · have hl : as.length = 1 := by
                  have : ar w = some as.length := of_decide_eq_true hf
                  rw [hw] at this
                  exact (Option.some.inj this).symm
                obtain ⟨a, rfl⟩ := List.length_eq_one_iff.mp hl
                have hb := is_bead (h2 a (by simp)) S.length S
                rw [ev_seq, hs1, ev_kSeqN]
                unfold G_measured_s2 ms
                simp only [ev_getV, ev_kGet, ev_kGetO, ev_pure, ev_frz, ev_kFrz, ev_kFrzL, ev_kFrzD, ev_kFrzX, ev_se, ev_kSe, ev_kSeX, ev_st, ev_kStT, ev_kStB, ev_e1, ev_kE1, ev_e2, ev_kE2, ev_eL, ev_kEL, ev_nil, ev_cons, ev_kCons, ev_kCons2, ev_boolR, ev_kBoolR, ev_notB, ev_kNot, ev_andB, ev_kAndT, ev_kAndF, ev_orB, ev_kOrT, ev_kOrF, ev_band, ev_kBandT, ev_kBandF, ev_bor, ev_kBorT, ev_kBorF, ev_t1, ev_kT1n, ev_ifE, ev_kIfT, ev_kIfF, ev_callE, ev_call1, ev_call1b, ev_call2, ev_call2b, ev_call3, ev_call3b, ev_kCallT, ev_kCallO, ev_kCallX, ev_noPart, ev_intPart, ev_kPart, ev_eS, ev_kSl1, ev_kSl2, ev_kSl3, ev_lst, ev_tup, ev_tup0, ev_tup1, ev_tup2, ev_tup3, ev_tup4, ev_lst0, ev_lst1, ev_lst2, ev_lst3, ev_lst4, ev_eMt, ev_kMt, ev_seq, ev_kSeqN, ev_kSeqR, ev_kSeqX, ev_kSeqB, ev_kSeqC, ev_ret, ev_kRetT, ev_kRetO, ev_kRetX, ev_ifS, ev_kIfST, ev_kIfSF, ev_nx, ev_set, ev_kSetT, ev_own, ev_kOwn, ev_box, ev_kBox, ev_drop, ev_kDrop, ev_setIx, ev_kSetIx1, ev_kSetIx2, ev_kSetIx3, ev_kSetIx4, ev_par, ev_kPar, ev_asg, ev_kAsg, ev_for, ev_kFor, ev_it, ev_kItT, ev_kItL, ev_kItS, ev_rng1, ev_kRng1, ev_lc, List.getElem?_cons_zero, List.getElem?_cons_succ, List.set_cons_zero, List.set_cons_succ, slots, List.map_cons, List.map_nil, List.length_cons, List.length_nil, List.replicate_succ, List.replicate_zero, List.cons_append, List.nil_append, List.append_nil, Nat.reduceSub, Nat.reduceAdd, Nat.zero_add, Nat.sub_self, Nat.sub_zero, Nat.reduceLeDiff, okD, okD?, add_r, lt_r, ge_r, gt_r, le_r, sub_r, len_l, len_t, neg_r, Bool.not_true, Bool.not_false, ix_0, eq_s w [98, 101, 97, 100] _ k1 rfl, decide_eq_true (show w = [98, 101, 97, 100] from hw), ix_1, hb, int_b]
                have e2 : msr (n + 2) (.tup [.str w, a]) k = (b2i (isBead a), k) := by
                  unfold msr
                  rw [hf]
                  dsimp only
                  rw [if_pos hw]
                  rfl
                rw [e2]
                exact ofS_tree _ _ _ _ _ rfl
              · have e2 : msr (n + 2) (.tup (.str w :: as)) k = mfold (msr (n + 1)) as k 1 k := by
                  show (match isForm (.tup (.str w :: as)), D.tup (.str w :: as) with
                    | true, .tup (.str w :: as) => if w = wB then (b2i (isBead (as.headD .non)), k) else mfold (msr (n + 1)) as k 1 k
                    | _, _ => (0, k)) = _
                  rw [hf]
                  dsimp only
                  rw [if_neg hw]
                have lp := m_loop (S_measured (n + 1)) (msr (n + 1)) (.tup (.str w :: as)) k S S.length as (fun a ha k b S => ih a (h2 a (List.mem_cons_of_mem _ ha)) k b S) 1 k none none none
                have hs : ∀ G : Stm, seqS (G_measured_s1 (S_measured (n + 1))) (seqS (G_measured_s2 (S_measured (n + 1))) (seqS (G_measured_s3 (S_measured (n + 1))) (seqS (G_measured_s4 (S_measured (n + 1))) G))) ⟨slots 7 [.t (.tup (.str w :: as)), .t (.int k)], S, S.length⟩ = kSeq G (forGo (nameB 4) (G_measured_l1 (S_measured (n + 1))) as (ms (.tup (.str w :: as)) k (some (.av (.t (.int 1)))) (some (.av (.t (.int k)))) none none none S S.length)) := by
                  intro G
                  rw [ev_seq, hs1, ev_kSeqN]
                  unfold G_measured_s2 G_measured_s3 G_measured_s4 ms
                  simp only [ev_getV, ev_kGet, ev_kGetO, ev_pure, ev_frz, ev_kFrz, ev_kFrzL, ev_kFrzD, ev_kFrzX, ev_se, ev_kSe, ev_kSeX, ev_st, ev_kStT, ev_kStB, ev_e1, ev_kE1, ev_e2, ev_kE2, ev_eL, ev_kEL, ev_nil, ev_cons, ev_kCons, ev_kCons2, ev_boolR, ev_kBoolR, ev_notB, ev_kNot, ev_andB, ev_kAndT, ev_kAndF, ev_orB, ev_kOrT, ev_kOrF, ev_band, ev_kBandT, ev_kBandF, ev_bor, ev_kBorT, ev_kBorF, ev_t1, ev_kT1n, ev_ifE, ev_kIfT, ev_kIfF, ev_callE, ev_call1, ev_call1b, ev_call2, ev_call2b, ev_call3, ev_call3b, ev_kCallT, ev_kCallO, ev_kCallX, ev_noPart, ev_intPart, ev_kPart, ev_eS, ev_kSl1, ev_kSl2, ev_kSl3, ev_lst, ev_tup, ev_tup0, ev_tup1, ev_tup2, ev_tup3, ev_tup4, ev_lst0, ev_lst1, ev_lst2, ev_lst3, ev_lst4, ev_eMt, ev_kMt, ev_seq, ev_kSeqN, ev_kSeqR, ev_kSeqX, ev_kSeqB, ev_kSeqC, ev_ret, ev_kRetT, ev_kRetO, ev_kRetX, ev_ifS, ev_kIfST, ev_kIfSF, ev_nx, ev_set, ev_kSetT, ev_own, ev_kOwn, ev_box, ev_kBox, ev_drop, ev_kDrop, ev_setIx, ev_kSetIx1, ev_kSetIx2, ev_kSetIx3, ev_kSetIx4, ev_par, ev_kPar, ev_asg, ev_kAsg, ev_for, ev_kFor, ev_it, ev_kItT, ev_kItL, ev_kItS, ev_rng1, ev_kRng1, ev_lc, List.getElem?_cons_zero, List.getElem?_cons_succ, List.set_cons_zero, List.set_cons_succ, slots, List.map_cons, List.map_nil, List.length_cons, List.length_nil, List.replicate_succ, List.replicate_zero, List.cons_append, List.nil_append, List.append_nil, Nat.reduceSub, Nat.reduceAdd, Nat.zero_add, Nat.sub_self, Nat.sub_zero, Nat.reduceLeDiff, okD, okD?, add_r, lt_r, ge_r, gt_r, le_r, sub_r, len_l, len_t, neg_r, Bool.not_true, Bool.not_false, ix_0, eq_s w [98, 101, 97, 100] _ k1 rfl, decide_eq_false (show ¬ w = [98, 101, 97, 100] from hw), sl_1]
                rw [hs, e2]
                rcases lp with ⟨m', hm, e3, e4⟩ | ⟨x', y', z', e3⟩
                · rw [e3, e4, ev_kSeqR]
                  obtain ⟨s', S', b'⟩ := m'
                  cases hm
                  exact ofS_tree _ _ _ _ _ rfl
                · rw [e3, ev_kSeqN]
                  unfold G_measured_s5 ms
                  simp only [ev_getV, ev_kGet, ev_kGetO, ev_pure, ev_frz, ev_kFrz, ev_kFrzL, ev_kFrzD, ev_kFrzX, ev_se, ev_kSe, ev_kSeX, ev_st, ev_kStT, ev_kStB, ev_e1, ev_kE1, ev_e2, ev_kE2, ev_eL, ev_kEL, ev_nil, ev_cons, ev_kCons, ev_kCons2, ev_boolR, ev_kBoolR, ev_notB, ev_kNot, ev_andB, ev_kAndT, ev_kAndF, ev_orB, ev_kOrT, ev_kOrF, ev_band, ev_kBandT, ev_kBandF, ev_bor, ev_kBorT, ev_kBorF, ev_t1, ev_kT1n, ev_ifE, ev_kIfT, ev_kIfF, ev_callE, ev_call1, ev_call1b, ev_call2, ev_call2b, ev_call3, ev_call3b, ev_kCallT, ev_kCallO, ev_kCallX, ev_noPart, ev_intPart, ev_kPart, ev_eS, ev_kSl1, ev_kSl2, ev_kSl3, ev_lst, ev_tup, ev_tup0, ev_tup1, ev_tup2, ev_tup3, ev_tup4, ev_lst0, ev_lst1, ev_lst2, ev_lst3, ev_lst4, ev_eMt, ev_kMt, ev_seq, ev_kSeqN, ev_kSeqR, ev_kSeqX, ev_kSeqB, ev_kSeqC, ev_ret, ev_kRetT, ev_kRetO, ev_kRetX, ev_ifS, ev_kIfST, ev_kIfSF, ev_nx, ev_set, ev_kSetT, ev_own, ev_kOwn, ev_box, ev_kBox, ev_drop, ev_kDrop, ev_setIx, ev_kSetIx1, ev_kSetIx2, ev_kSetIx3, ev_kSetIx4, ev_par, ev_kPar, ev_asg, ev_kAsg, ev_for, ev_kFor, ev_it, ev_kItT, ev_kItL, ev_kItS, ev_rng1, ev_kRng1, ev_lc, List.getElem?_cons_zero, List.getElem?_cons_succ, List.set_cons_zero, List.set_cons_succ, slots, List.map_cons, List.map_nil, List.length_cons, List.length_nil, List.replicate_succ, List.replicate_zero, List.cons_append, List.nil_append, List.append_nil, Nat.reduceSub, Nat.reduceAdd, Nat.zero_add, Nat.sub_self, Nat.sub_zero, Nat.reduceLeDiff, okD, okD?, add_r, lt_r, ge_r, gt_r, le_r, sub_r, len_l, len_t, neg_r, Bool.not_true, Bool.not_false]
                  exact ofS_tree _ _ _ _ _ rfl
          | _ => cases hf

end Lm
end part_Ld2_k22

section part_Ld3_k22
set_option Elab.async false
set_option linter.all false
set_option maxRecDepth 100000
set_option maxHeartbeats 8000000
set_option autoImplicit false
open PySem BL Lw
namespace Lm
/-! ### the law's own reckoning -/
def mx (i : Int) (r : List Int) : Int := r.foldl max i
def bui : Nat → D → Bool
  | 0, _ => false
  | n + 1, d => match isForm d, d with
    | true, .tup (.str w :: as) => if w = wB then isBead (as.headD .non) else as.all (bui n)
    | _, _ => false
def prt : Nat → D → Int
  | 0, _ => 0
  | n + 1, .tup (.str w :: as) => if w = wE ∨ w = wB then 1 else 1 + (as.map (prt n)).sum
  | _ + 1, _ => 0
def dpt : Nat → D → Int
  | 0, _ => 0
  | n + 1, .tup (.str w :: as) => if w = wE ∨ w = wB then 1 else 1 + (greatest (as.map (dpt n))).getD 0
  | _ + 1, _ => 0
theorem prt_pos : ∀ (n : Nat) (d : D), bui n d = true → 1 ≤ prt n d ∧ 1 ≤ dpt n d := by
  intro n
  induction n with
  | zero => intro d h; cases h
  | succ n ih =>
    intro d h
    have hf : isForm d = true := by
      cases q : isForm d with
      | true => rfl
      | false => unfold bui at h; rw [q] at h; cases h
    cases d with
    | tup xs =>
      cases xs with
      | nil => cases hf
      | cons x as =>
        cases x with
        | str w =>
          have h' : (if w = wB then isBead (as.headD .non) else as.all (bui n)) = true := by
            have h2 : (match isForm (.tup (.str w :: as)), D.tup (.str w :: as) with
              | true, .tup (.str w :: as) => if w = wB then isBead (as.headD .non) else as.all (bui n)
              | _, _ => false) = true := h
            rw [hf] at h2
            exact h2
          show 1 ≤ (if w = wE ∨ w = wB then 1 else 1 + (as.map (prt n)).sum) ∧ 1 ≤ (if w = wE ∨ w = wB then 1 else 1 + (greatest (as.map (dpt n))).getD 0)
          by_cases hw : w = wE ∨ w = wB
          · rw [if_pos hw, if_pos hw]; exact ⟨Int.le_refl _, Int.le_refl _⟩
          · rw [if_neg hw, if_neg hw]
            rw [if_neg fun e => hw (.inr e)] at h'
            have hall : ∀ a ∈ as, 1 ≤ prt n a ∧ 1 ≤ dpt n a := fun a ha => ih a (List.all_eq_true.mp h' a ha)
            have s1 : ∀ l : List D, (∀ a ∈ l, 1 ≤ prt n a ∧ 1 ≤ dpt n a) → 0 ≤ (l.map (prt n)).sum := by
              intro l
              induction l with
              | nil => intro _; exact Int.le_refl _
              | cons a l ihl =>
                intro hl
                rw [List.map_cons, List.sum_cons]
                have := (hl a List.mem_cons_self).1
                have := ihl fun x hx => hl x (List.mem_cons_of_mem _ hx)
                omega
            refine ⟨by have := s1 as hall; omega, ?_⟩
            cases as with
            | nil => exact Int.le_refl _
            | cons a r =>
              show 1 ≤ 1 + (r.map (dpt n)).foldl max (dpt n a)
              have := (foldmax (r.map (dpt n)) (dpt n a)).1
              have := (hall a List.mem_cons_self).2
              omega
        | _ => cases hf
    | _ => cases hf
theorem fold_bad (f : D → Int → Int × Int) : ∀ (as : List D) (k many low : Int), (∃ a ∈ as, (f a (k + 1)).1 = 0) → mfold f as k many low = (0, k)
  | [], _, _, _, h => by obtain ⟨a, ha, _⟩ := h; cases ha
  | a :: as, k, many, low, h => by
    unfold mfold
    by_cases h0 : (f a (k + 1)).1 = 0
    · rw [if_pos h0]
    · rw [if_neg h0]
      refine fold_bad f as k _ _ ?_
      obtain ⟨b, hb, e⟩ := h
      rcases List.mem_cons.mp hb with rfl | hb
      · exact absurd e h0
      · exact ⟨b, hb, e⟩
theorem fold_good (f : D → Int → Int × Int) (p q : D → Int) : ∀ (as : List D) (k many low : Int), (∀ a ∈ as, 1 ≤ p a ∧ f a (k + 1) = (p a, k + q a)) → mfold f as k many low = (many + (as.map p).sum, (as.map q).foldl (fun l x => if k + x > l then k + x else l) low)
  | [], k, many, low, _ => by
    show (many, low) = (many + 0, low)
    rw [Int.add_zero]
  | a :: as, k, many, low, h => by
    obtain ⟨h1, h2⟩ := h a List.mem_cons_self
    unfold mfold
    rw [h2]
    dsimp only
    rw [if_neg (by omega), fold_good f p q as k _ _ fun x hx => h x (List.mem_cons_of_mem _ hx)]
    rw [List.map_cons, List.map_cons, List.sum_cons, List.foldl_cons]
    rw [Int.add_assoc]
theorem fold_max (k : Int) : ∀ (xs : List Int) (l m : Int), l = k + m → xs.foldl (fun l x => if k + x > l then k + x else l) l = k + xs.foldl max m
  | [], l, m, h => h
  | x :: xs, l, m, h => by
    rw [List.foldl_cons, List.foldl_cons]
    refine fold_max k xs _ _ ?_
    subst h
    split <;> omega
theorem max_zero : ∀ (xs : List Int), (∀ x ∈ xs, 1 ≤ x) → xs.foldl max 0 = (greatest xs).getD 0
  | [], _ => rfl
  | x :: xs, h => by
    show xs.foldl max (max 0 x) = xs.foldl max x
    have := h x List.mem_cons_self
    rw [show max 0 x = x by omega]
theorem measure_is : ∀ (n : Nat) (d : D) (k : Int), msr n d k = if bui n d = true then (prt n d, k - 1 + dpt n d) else (0, k) := by
  intro n
  induction n with
  | zero => intro d k; rfl
  | succ n ih =>
    intro d k
    cases hf : isForm d with
    | false =>
      have e1 : msr (n + 1) d k = (0, k) := by unfold msr; rw [hf]
      have e2 : bui (n + 1) d = false := by unfold bui; rw [hf]
      rw [e1, e2, if_neg Bool.false_ne_true]
    | true =>
      cases d with
      | tup xs =>
        cases xs with
        | nil => cases hf
        | cons x as =>
          cases x with
          | str w =>
            have e1 : msr (n + 1) (.tup (.str w :: as)) k = if w = wB then (b2i (isBead (as.headD .non)), k) else mfold (msr n) as k 1 k := by
              show (match isForm (.tup (.str w :: as)), D.tup (.str w :: as) with
                | true, .tup (.str w :: as) => if w = wB then (b2i (isBead (as.headD .non)), k) else mfold (msr n) as k 1 k
                | _, _ => (0, k)) = _
              rw [hf]
            have e2 : bui (n + 1) (.tup (.str w :: as)) = if w = wB then isBead (as.headD .non) else as.all (bui n) := by
              show (match isForm (.tup (.str w :: as)), D.tup (.str w :: as) with
                | true, .tup (.str w :: as) => if w = wB then isBead (as.headD .non) else as.all (bui n)
                | _, _ => false) = _
              rw [hf]
            have e3 : prt (n + 1) (.tup (.str w :: as)) = if w = wE ∨ w = wB then 1 else 1 + (as.map (prt n)).sum := rfl
            have e4 : dpt (n + 1) (.tup (.str w :: as)) = if w = wE ∨ w = wB then 1 else 1 + (greatest (as.map (dpt n))).getD 0 := rfl
            rw [e1, e2, e3, e4]
            by_cases hw : w = wB
            · have ho : w = wE ∨ w = wB := .inr hw
              rw [if_pos hw, if_pos hw, if_pos ho, if_pos ho]
              cases isBead (as.headD .non) with
              | true =>
                show ((1 : Int), k) = (1, k - 1 + 1)
                rw [Int.sub_add_cancel]
              | false => rfl
            · rw [if_neg hw, if_neg hw]
              have har : ar w = some as.length := of_decide_eq_true hf
              cases hall : as.all (bui n) with
              | false =>
                rw [if_neg Bool.false_ne_true]
                obtain ⟨a, ha, hb⟩ : ∃ a ∈ as, bui n a = false := by
                  by_cases z : ∃ a ∈ as, bui n a = false
                  · exact z
                  · exfalso
                    have : as.all (bui n) = true := List.all_eq_true.mpr fun a ha => by
                      cases q : bui n a with
                      | true => rfl
                      | false => exact absurd ⟨a, ha, q⟩ z
                    rw [this] at hall
                    cases hall
                exact fold_bad _ as k 1 k ⟨a, ha, by rw [ih, hb, if_neg Bool.false_ne_true]⟩
              | true =>
                rw [if_pos rfl]
                have hg := fold_good (msr n) (prt n) (dpt n) as k 1 k fun a ha => by
                  have hb := List.all_eq_true.mp hall a ha
                  refine ⟨(prt_pos n a hb).1, ?_⟩
                  rw [ih, hb, if_pos rfl, Int.add_sub_cancel]
                rw [hg]
                have hm : (as.map (dpt n)).foldl (fun l x => if k + x > l then k + x else l) k = k + (greatest (as.map (dpt n))).getD 0 := by
                  rw [fold_max k _ k 0 (by omega), max_zero _ fun x hx => by
                    obtain ⟨a, ha, rfl⟩ := List.mem_map.mp hx
                    exact (prt_pos n a (List.all_eq_true.mp hall a ha)).2]
                rw [hm]
                by_cases hE : w = wE
                · have hnil : as = [] := by
                    rw [hE] at har
                    exact List.eq_nil_of_length_eq_zero (Option.some.inj har).symm
                  subst hnil
                  have ho : w = wE ∨ w = wB := .inl hE
                  rw [if_pos ho, if_pos ho]
                  show ((1 : Int) + 0, k + 0) = (1, k - 1 + 1)
                  rw [Int.sub_add_cancel, Int.add_zero, Int.add_zero]
                · have ho : ¬ (w = wE ∨ w = wB) := by rintro (h | h); exact hE h; exact hw h
                  rw [if_neg ho, if_neg ho]
                  congr 1
                  omega
          | _ => cases hf
      | _ => cases hf

end Lm
end part_Ld3_k22

section part_Ld4_k22
set_option Elab.async false
set_option linter.all false
set_option maxRecDepth 100000
set_option maxHeartbeats 8000000
set_option autoImplicit false
open PySem BL Lw
namespace Lm
/-! ### flaw and the law's flaw -/
def flw (d : D) : D := if bui 40 d = true then (if 16 < prt 40 d then .str [109, 97, 110, 121] else if 6 < dpt 40 d then .str [100, 101, 101, 112] else .non) else .str [102, 111, 114, 109]
theorem flaw {d : D} (h : Tre 39 d) (b : Nat) (S : List Cell) : S_flaw b [.t d] S = .ret (.av (.t (flw d))) S := by
  rw [S_flaw, mkT_of, G_flaw]
  have e := measured 39 d h 1 S.length S
  have mi := measure_is 40 d 1
  unfold G_flaw_s1 G_flaw_s2 G_flaw_s3 G_flaw_s4 flw
  cases hb : bui 40 d with
  | false =>
    rw [hb, if_neg Bool.false_ne_true] at mi
    rw [mi] at e
    simp only [ev_getV, ev_kGet, ev_kGetO, ev_pure, ev_frz, ev_kFrz, ev_kFrzL, ev_kFrzD, ev_kFrzX, ev_se, ev_kSe, ev_kSeX, ev_st, ev_kStT, ev_kStB, ev_e1, ev_kE1, ev_e2, ev_kE2, ev_eL, ev_kEL, ev_nil, ev_cons, ev_kCons, ev_kCons2, ev_boolR, ev_kBoolR, ev_notB, ev_kNot, ev_andB, ev_kAndT, ev_kAndF, ev_orB, ev_kOrT, ev_kOrF, ev_band, ev_kBandT, ev_kBandF, ev_bor, ev_kBorT, ev_kBorF, ev_t1, ev_kT1n, ev_ifE, ev_kIfT, ev_kIfF, ev_callE, ev_call1, ev_call1b, ev_call2, ev_call2b, ev_call3, ev_call3b, ev_kCallT, ev_kCallO, ev_kCallX, ev_noPart, ev_intPart, ev_kPart, ev_eS, ev_kSl1, ev_kSl2, ev_kSl3, ev_lst, ev_tup, ev_tup0, ev_tup1, ev_tup2, ev_tup3, ev_tup4, ev_lst0, ev_lst1, ev_lst2, ev_lst3, ev_lst4, ev_eMt, ev_kMt, ev_seq, ev_kSeqN, ev_kSeqR, ev_kSeqX, ev_kSeqB, ev_kSeqC, ev_ret, ev_kRetT, ev_kRetO, ev_kRetX, ev_ifS, ev_kIfST, ev_kIfSF, ev_nx, ev_set, ev_kSetT, ev_own, ev_kOwn, ev_box, ev_kBox, ev_drop, ev_kDrop, ev_setIx, ev_kSetIx1, ev_kSetIx2, ev_kSetIx3, ev_kSetIx4, ev_par, ev_kPar, ev_asg, ev_kAsg, ev_for, ev_kFor, ev_it, ev_kItT, ev_kItL, ev_kItS, ev_rng1, ev_kRng1, ev_lc, List.getElem?_cons_zero, List.getElem?_cons_succ, List.set_cons_zero, List.set_cons_succ, slots, List.map_cons, List.map_nil, List.length_cons, List.length_nil, List.replicate_succ, List.replicate_zero, List.cons_append, List.nil_append, List.append_nil, Nat.reduceSub, Nat.reduceAdd, Nat.zero_add, Nat.sub_self, Nat.sub_zero, Nat.reduceLeDiff, okD, okD?, add_r, lt_r, ge_r, gt_r, le_r, sub_r, len_l, len_t, neg_r, Bool.not_true, Bool.not_false, e, asg_some _ _ _ _ (tup2B 1 2 _ _ _ _ _), eq_i, decide_true]
    rw [if_neg Bool.false_ne_true]
    exact ofS_tree _ _ _ _ _ rfl
  | true =>
    rw [hb, if_pos rfl] at mi
    rw [mi] at e
    obtain ⟨p1, p2⟩ := prt_pos 40 d hb
    have h0 : ¬ prt 40 d = 0 := by omega
    rw [if_pos rfl]
    by_cases hm : 16 < prt 40 d
    · simp only [ev_getV, ev_kGet, ev_kGetO, ev_pure, ev_frz, ev_kFrz, ev_kFrzL, ev_kFrzD, ev_kFrzX, ev_se, ev_kSe, ev_kSeX, ev_st, ev_kStT, ev_kStB, ev_e1, ev_kE1, ev_e2, ev_kE2, ev_eL, ev_kEL, ev_nil, ev_cons, ev_kCons, ev_kCons2, ev_boolR, ev_kBoolR, ev_notB, ev_kNot, ev_andB, ev_kAndT, ev_kAndF, ev_orB, ev_kOrT, ev_kOrF, ev_band, ev_kBandT, ev_kBandF, ev_bor, ev_kBorT, ev_kBorF, ev_t1, ev_kT1n, ev_ifE, ev_kIfT, ev_kIfF, ev_callE, ev_call1, ev_call1b, ev_call2, ev_call2b, ev_call3, ev_call3b, ev_kCallT, ev_kCallO, ev_kCallX, ev_noPart, ev_intPart, ev_kPart, ev_eS, ev_kSl1, ev_kSl2, ev_kSl3, ev_lst, ev_tup, ev_tup0, ev_tup1, ev_tup2, ev_tup3, ev_tup4, ev_lst0, ev_lst1, ev_lst2, ev_lst3, ev_lst4, ev_eMt, ev_kMt, ev_seq, ev_kSeqN, ev_kSeqR, ev_kSeqX, ev_kSeqB, ev_kSeqC, ev_ret, ev_kRetT, ev_kRetO, ev_kRetX, ev_ifS, ev_kIfST, ev_kIfSF, ev_nx, ev_set, ev_kSetT, ev_own, ev_kOwn, ev_box, ev_kBox, ev_drop, ev_kDrop, ev_setIx, ev_kSetIx1, ev_kSetIx2, ev_kSetIx3, ev_kSetIx4, ev_par, ev_kPar, ev_asg, ev_kAsg, ev_for, ev_kFor, ev_it, ev_kItT, ev_kItL, ev_kItS, ev_rng1, ev_kRng1, ev_lc, List.getElem?_cons_zero, List.getElem?_cons_succ, List.set_cons_zero, List.set_cons_succ, slots, List.map_cons, List.map_nil, List.length_cons, List.length_nil, List.replicate_succ, List.replicate_zero, List.cons_append, List.nil_append, List.append_nil, Nat.reduceSub, Nat.reduceAdd, Nat.zero_add, Nat.sub_self, Nat.sub_zero, Nat.reduceLeDiff, okD, okD?, add_r, lt_r, ge_r, gt_r, le_r, sub_r, len_l, len_t, neg_r, Bool.not_true, Bool.not_false, e, asg_some _ _ _ _ (tup2B 1 2 _ _ _ _ _), eq_i, decide_eq_false h0, decide_eq_true hm]
      rw [if_pos hm]
      exact ofS_tree _ _ _ _ _ rfl
    · rw [if_neg hm]
      by_cases hd : 6 < dpt 40 d
      · have hd' : 6 < 1 - 1 + dpt 40 d := by omega
        simp only [ev_getV, ev_kGet, ev_kGetO, ev_pure, ev_frz, ev_kFrz, ev_kFrzL, ev_kFrzD, ev_kFrzX, ev_se, ev_kSe, ev_kSeX, ev_st, ev_kStT, ev_kStB, ev_e1, ev_kE1, ev_e2, ev_kE2, ev_eL, ev_kEL, ev_nil, ev_cons, ev_kCons, ev_kCons2, ev_boolR, ev_kBoolR, ev_notB, ev_kNot, ev_andB, ev_kAndT, ev_kAndF, ev_orB, ev_kOrT, ev_kOrF, ev_band, ev_kBandT, ev_kBandF, ev_bor, ev_kBorT, ev_kBorF, ev_t1, ev_kT1n, ev_ifE, ev_kIfT, ev_kIfF, ev_callE, ev_call1, ev_call1b, ev_call2, ev_call2b, ev_call3, ev_call3b, ev_kCallT, ev_kCallO, ev_kCallX, ev_noPart, ev_intPart, ev_kPart, ev_eS, ev_kSl1, ev_kSl2, ev_kSl3, ev_lst, ev_tup, ev_tup0, ev_tup1, ev_tup2, ev_tup3, ev_tup4, ev_lst0, ev_lst1, ev_lst2, ev_lst3, ev_lst4, ev_eMt, ev_kMt, ev_seq, ev_kSeqN, ev_kSeqR, ev_kSeqX, ev_kSeqB, ev_kSeqC, ev_ret, ev_kRetT, ev_kRetO, ev_kRetX, ev_ifS, ev_kIfST, ev_kIfSF, ev_nx, ev_set, ev_kSetT, ev_own, ev_kOwn, ev_box, ev_kBox, ev_drop, ev_kDrop, ev_setIx, ev_kSetIx1, ev_kSetIx2, ev_kSetIx3, ev_kSetIx4, ev_par, ev_kPar, ev_asg, ev_kAsg, ev_for, ev_kFor, ev_it, ev_kItT, ev_kItL, ev_kItS, ev_rng1, ev_kRng1, ev_lc, List.getElem?_cons_zero, List.getElem?_cons_succ, List.set_cons_zero, List.set_cons_succ, slots, List.map_cons, List.map_nil, List.length_cons, List.length_nil, List.replicate_succ, List.replicate_zero, List.cons_append, List.nil_append, List.append_nil, Nat.reduceSub, Nat.reduceAdd, Nat.zero_add, Nat.sub_self, Nat.sub_zero, Nat.reduceLeDiff, okD, okD?, add_r, lt_r, ge_r, gt_r, le_r, sub_r, len_l, len_t, neg_r, Bool.not_true, Bool.not_false, e, asg_some _ _ _ _ (tup2B 1 2 _ _ _ _ _), eq_i, decide_eq_false h0, decide_eq_false hm, decide_eq_true hd']
        rw [if_pos hd]
        exact ofS_tree _ _ _ _ _ rfl
      · have hd' : ¬ 6 < 1 - 1 + dpt 40 d := by omega
        simp only [ev_getV, ev_kGet, ev_kGetO, ev_pure, ev_frz, ev_kFrz, ev_kFrzL, ev_kFrzD, ev_kFrzX, ev_se, ev_kSe, ev_kSeX, ev_st, ev_kStT, ev_kStB, ev_e1, ev_kE1, ev_e2, ev_kE2, ev_eL, ev_kEL, ev_nil, ev_cons, ev_kCons, ev_kCons2, ev_boolR, ev_kBoolR, ev_notB, ev_kNot, ev_andB, ev_kAndT, ev_kAndF, ev_orB, ev_kOrT, ev_kOrF, ev_band, ev_kBandT, ev_kBandF, ev_bor, ev_kBorT, ev_kBorF, ev_t1, ev_kT1n, ev_ifE, ev_kIfT, ev_kIfF, ev_callE, ev_call1, ev_call1b, ev_call2, ev_call2b, ev_call3, ev_call3b, ev_kCallT, ev_kCallO, ev_kCallX, ev_noPart, ev_intPart, ev_kPart, ev_eS, ev_kSl1, ev_kSl2, ev_kSl3, ev_lst, ev_tup, ev_tup0, ev_tup1, ev_tup2, ev_tup3, ev_tup4, ev_lst0, ev_lst1, ev_lst2, ev_lst3, ev_lst4, ev_eMt, ev_kMt, ev_seq, ev_kSeqN, ev_kSeqR, ev_kSeqX, ev_kSeqB, ev_kSeqC, ev_ret, ev_kRetT, ev_kRetO, ev_kRetX, ev_ifS, ev_kIfST, ev_kIfSF, ev_nx, ev_set, ev_kSetT, ev_own, ev_kOwn, ev_box, ev_kBox, ev_drop, ev_kDrop, ev_setIx, ev_kSetIx1, ev_kSetIx2, ev_kSetIx3, ev_kSetIx4, ev_par, ev_kPar, ev_asg, ev_kAsg, ev_for, ev_kFor, ev_it, ev_kItT, ev_kItL, ev_kItS, ev_rng1, ev_kRng1, ev_lc, List.getElem?_cons_zero, List.getElem?_cons_succ, List.set_cons_zero, List.set_cons_succ, slots, List.map_cons, List.map_nil, List.length_cons, List.length_nil, List.replicate_succ, List.replicate_zero, List.cons_append, List.nil_append, List.append_nil, Nat.reduceSub, Nat.reduceAdd, Nat.zero_add, Nat.sub_self, Nat.sub_zero, Nat.reduceLeDiff, okD, okD?, add_r, lt_r, ge_r, gt_r, le_r, sub_r, len_l, len_t, neg_r, Bool.not_true, Bool.not_false, e, asg_some _ _ _ _ (tup2B 1 2 _ _ _ _ _), eq_i, decide_eq_false h0, decide_eq_false hm, decide_eq_false hd']
        rw [if_neg hd]
        exact ofS_tree _ _ _ _ _ rfl
def sizes : List (D × D) := [(.str wE, .int 1), (.str wB, .int 2), (.str wT, .int 3), (.str wO, .int 3), (.str wA, .int 2)]
theorem look_sizes (w : List Nat) : lookD sizes (.str w) = (ar w).map fun n => .int (n + 1 : Nat) := by
  by_cases h1 : w = wE
  · subst h1; rfl
  by_cases h2 : w = wB
  · subst h2; rfl
  by_cases h3 : w = wT
  · subst h3; rfl
  by_cases h4 : w = wO
  · subst h4; rfl
  by_cases h5 : w = wA
  · subst h5; rfl
  have k1 : (wE == w) = false := by rw [beq_eq_false_iff_ne]; exact fun e => h1 e.symm
  have k2 : (wB == w) = false := by rw [beq_eq_false_iff_ne]; exact fun e => h2 e.symm
  have k3 : (wT == w) = false := by rw [beq_eq_false_iff_ne]; exact fun e => h3 e.symm
  have k4 : (wO == w) = false := by rw [beq_eq_false_iff_ne]; exact fun e => h4 e.symm
  have k5 : (wA == w) = false := by rw [beq_eq_false_iff_ne]; exact fun e => h5 e.symm
  unfold ar
  rw [if_neg h1, if_neg h2, if_neg h3, if_neg h4, if_neg h5]
  unfold lookD sizes
  simp only [List.find?_cons, sameK, k1, k2, k3, k4, k5, List.find?_nil, Option.map_none]
theorem get2_ok (F G E : Ex AV) (m : M) (kvs : List (D × D)) (w : List Nat) (e : D) (h1 : F m = .ok (.t (.dic kvs)) m) (h2 : G m = .ok (.t (.str w)) m) (h3 : E m = .ok (.t e) m) : eGet2 F G E m = .ok (.av (.t ((lookD kvs (.str w)).getD e))) m := by
  unfold eGet2
  rw [h1]
  show (match isDicA (.t (.dic kvs)) m with
    | true => (G m).bind fun b m2 => (E m2).bind fun z m3 => match z with
      | .t d => getF (.t (.dic kvs)) b (some d) m3
      | _ => .stuck
    | false => .stuck) = _
  rw [show isDicA (.t (.dic kvs)) m = true from rfl]
  dsimp only
  rw [h2]
  show ((E m).bind fun z m3 => match z with
      | .t d => getF (.t (.dic kvs)) (.t (.str w)) (some d) m3
      | _ => .stuck) = _
  rw [h3]
  show getF (.t (.dic kvs)) (.t (.str w)) (some e) m = _
  show (match lookD kvs (.str w) with
    | some d => okD d m
    | none => okD? (some e) m) = _
  cases lookD kvs (.str w) <;> rfl
theorem bls_map (g : D → Bool) : ∀ as : List D, blsOf (as.map fun a => .bl (g a)) = some (as.map g)
  | [] => rfl
  | a :: as => by
    rw [List.map_cons, blsOf, bls_map g as]
    rfl
theorem ints_map (g : D → Int) : ∀ as : List D, intsOf (as.map fun a => .int (g a)) = some (as.map g)
  | [] => rfl
  | a :: as => by
    rw [List.map_cons, intsOf, ints_map g as]
    rfl
theorem all_l (xs : List D) (bs : List Bool) (m : M) (h : blsOf xs = some bs) : lblF (fun bs => bs.all id) [.t (.lst xs)] m = .ok (.av (.t (.bl (bs.all id)))) m := by
  unfold lblF
  show (match (some xs).bind blsOf with
    | some is => okD (.bl (is.all id)) m
    | none => .stuck) = _
  rw [Option.bind_some, h]
  rfl
theorem sum_l (xs : List D) (bs : List Int) (m : M) (h : intsOf xs = some bs) : lintF (fun is => some is.sum) [.t (.lst xs)] m = .ok (.av (.t (.int bs.sum))) m := by
  unfold lintF
  show (match (some xs).bind intsOf with
    | some is => okD? ((some is.sum).map D.int) m
    | none => .stuck) = _
  rw [Option.bind_some, h]
  rfl
theorem max_l (xs : List D) (bs : List Int) (i : Int) (m : M) (h : intsOf xs = some bs) (hi : greatest bs = some i) : lintF greatest [.t (.lst xs)] m = .ok (.av (.t (.int i))) m := by
  unfold lintF
  show (match (some xs).bind intsOf with
    | some is => okD? ((greatest is).map D.int) m
    | none => .stuck) = _
  rw [Option.bind_some, h]
  show okD? ((greatest bs).map D.int) m = _
  rw [hi]
  rfl
theorem built : ∀ (n : Nat) (d : D), Tre n d → ∀ (b : Nat) (S : List Cell), S_law_is_built (n + 1) b [.t d] S = .ret (.av (.t (.bl (bui (n + 1) d)))) S := by
  have nof : ∀ (n : Nat) (d : D) (g : Fn) (b : Nat) (S : List Cell), (∃ i, d = .int i) ∨ (∃ x, d = .str x) ∨ d = .tup [] ∨ (∃ i r, d = .tup (.int i :: r)) ∨ (∃ i r, d = .tup (.tup i :: r)) → mkT 4 (G_law_is_built g) b [.t d] S = .ret (.av (.t (.bl (bui (n + 1) d)))) S := by
    intro n d g b S h
    rw [mkT_of, G_law_is_built]
    unfold G_law_is_built_s1
    rcases h with ⟨i, rfl⟩ | ⟨x, rfl⟩ | rfl | ⟨i, r, rfl⟩ | ⟨i, r, rfl⟩
    · simp only [ev_getV, ev_kGet, ev_kGetO, ev_pure, ev_frz, ev_kFrz, ev_kFrzL, ev_kFrzD, ev_kFrzX, ev_se, ev_kSe, ev_kSeX, ev_st, ev_kStT, ev_kStB, ev_e1, ev_kE1, ev_e2, ev_kE2, ev_eL, ev_kEL, ev_nil, ev_cons, ev_kCons, ev_kCons2, ev_boolR, ev_kBoolR, ev_notB, ev_kNot, ev_andB, ev_kAndT, ev_kAndF, ev_orB, ev_kOrT, ev_kOrF, ev_band, ev_kBandT, ev_kBandF, ev_bor, ev_kBorT, ev_kBorF, ev_t1, ev_kT1n, ev_ifE, ev_kIfT, ev_kIfF, ev_callE, ev_call1, ev_call1b, ev_call2, ev_call2b, ev_call3, ev_call3b, ev_kCallT, ev_kCallO, ev_kCallX, ev_noPart, ev_intPart, ev_kPart, ev_eS, ev_kSl1, ev_kSl2, ev_kSl3, ev_lst, ev_tup, ev_tup0, ev_tup1, ev_tup2, ev_tup3, ev_tup4, ev_lst0, ev_lst1, ev_lst2, ev_lst3, ev_lst4, ev_eMt, ev_kMt, ev_seq, ev_kSeqN, ev_kSeqR, ev_kSeqX, ev_kSeqB, ev_kSeqC, ev_ret, ev_kRetT, ev_kRetO, ev_kRetX, ev_ifS, ev_kIfST, ev_kIfSF, ev_nx, ev_set, ev_kSetT, ev_own, ev_kOwn, ev_box, ev_kBox, ev_drop, ev_kDrop, ev_setIx, ev_kSetIx1, ev_kSetIx2, ev_kSetIx3, ev_kSetIx4, ev_par, ev_kPar, ev_asg, ev_kAsg, ev_for, ev_kFor, ev_it, ev_kItT, ev_kItL, ev_kItS, ev_rng1, ev_kRng1, ev_lc, List.getElem?_cons_zero, List.getElem?_cons_succ, List.set_cons_zero, List.set_cons_succ, slots, List.map_cons, List.map_nil, List.length_cons, List.length_nil, List.replicate_succ, List.replicate_zero, List.cons_append, List.nil_append, List.append_nil, Nat.reduceSub, Nat.reduceAdd, Nat.zero_add, Nat.sub_self, Nat.sub_zero, Nat.reduceLeDiff, okD, okD?, add_r, lt_r, ge_r, gt_r, le_r, sub_r, len_l, len_t, neg_r, Bool.not_true, Bool.not_false, isi_i, Ty.sub]
      exact ofS_tree _ _ _ _ _ rfl
    · simp only [ev_getV, ev_kGet, ev_kGetO, ev_pure, ev_frz, ev_kFrz, ev_kFrzL, ev_kFrzD, ev_kFrzX, ev_se, ev_kSe, ev_kSeX, ev_st, ev_kStT, ev_kStB, ev_e1, ev_kE1, ev_e2, ev_kE2, ev_eL, ev_kEL, ev_nil, ev_cons, ev_kCons, ev_kCons2, ev_boolR, ev_kBoolR, ev_notB, ev_kNot, ev_andB, ev_kAndT, ev_kAndF, ev_orB, ev_kOrT, ev_kOrF, ev_band, ev_kBandT, ev_kBandF, ev_bor, ev_kBorT, ev_kBorF, ev_t1, ev_kT1n, ev_ifE, ev_kIfT, ev_kIfF, ev_callE, ev_call1, ev_call1b, ev_call2, ev_call2b, ev_call3, ev_call3b, ev_kCallT, ev_kCallO, ev_kCallX, ev_noPart, ev_intPart, ev_kPart, ev_eS, ev_kSl1, ev_kSl2, ev_kSl3, ev_lst, ev_tup, ev_tup0, ev_tup1, ev_tup2, ev_tup3, ev_tup4, ev_lst0, ev_lst1, ev_lst2, ev_lst3, ev_lst4, ev_eMt, ev_kMt, ev_seq, ev_kSeqN, ev_kSeqR, ev_kSeqX, ev_kSeqB, ev_kSeqC, ev_ret, ev_kRetT, ev_kRetO, ev_kRetX, ev_ifS, ev_kIfST, ev_kIfSF, ev_nx, ev_set, ev_kSetT, ev_own, ev_kOwn, ev_box, ev_kBox, ev_drop, ev_kDrop, ev_setIx, ev_kSetIx1, ev_kSetIx2, ev_kSetIx3, ev_kSetIx4, ev_par, ev_kPar, ev_asg, ev_kAsg, ev_for, ev_kFor, ev_it, ev_kItT, ev_kItL, ev_kItS, ev_rng1, ev_kRng1, ev_lc, List.getElem?_cons_zero, List.getElem?_cons_succ, List.set_cons_zero, List.set_cons_succ, slots, List.map_cons, List.map_nil, List.length_cons, List.length_nil, List.replicate_succ, List.replicate_zero, List.cons_append, List.nil_append, List.append_nil, Nat.reduceSub, Nat.reduceAdd, Nat.zero_add, Nat.sub_self, Nat.sub_zero, Nat.reduceLeDiff, okD, okD?, add_r, lt_r, ge_r, gt_r, le_r, sub_r, len_l, len_t, neg_r, Bool.not_true, Bool.not_false, isi_s, Ty.sub]
      exact ofS_tree _ _ _ _ _ rfl
    · simp only [ev_getV, ev_kGet, ev_kGetO, ev_pure, ev_frz, ev_kFrz, ev_kFrzL, ev_kFrzD, ev_kFrzX, ev_se, ev_kSe, ev_kSeX, ev_st, ev_kStT, ev_kStB, ev_e1, ev_kE1, ev_e2, ev_kE2, ev_eL, ev_kEL, ev_nil, ev_cons, ev_kCons, ev_kCons2, ev_boolR, ev_kBoolR, ev_notB, ev_kNot, ev_andB, ev_kAndT, ev_kAndF, ev_orB, ev_kOrT, ev_kOrF, ev_band, ev_kBandT, ev_kBandF, ev_bor, ev_kBorT, ev_kBorF, ev_t1, ev_kT1n, ev_ifE, ev_kIfT, ev_kIfF, ev_callE, ev_call1, ev_call1b, ev_call2, ev_call2b, ev_call3, ev_call3b, ev_kCallT, ev_kCallO, ev_kCallX, ev_noPart, ev_intPart, ev_kPart, ev_eS, ev_kSl1, ev_kSl2, ev_kSl3, ev_lst, ev_tup, ev_tup0, ev_tup1, ev_tup2, ev_tup3, ev_tup4, ev_lst0, ev_lst1, ev_lst2, ev_lst3, ev_lst4, ev_eMt, ev_kMt, ev_seq, ev_kSeqN, ev_kSeqR, ev_kSeqX, ev_kSeqB, ev_kSeqC, ev_ret, ev_kRetT, ev_kRetO, ev_kRetX, ev_ifS, ev_kIfST, ev_kIfSF, ev_nx, ev_set, ev_kSetT, ev_own, ev_kOwn, ev_box, ev_kBox, ev_drop, ev_kDrop, ev_setIx, ev_kSetIx1, ev_kSetIx2, ev_kSetIx3, ev_kSetIx4, ev_par, ev_kPar, ev_asg, ev_kAsg, ev_for, ev_kFor, ev_it, ev_kItT, ev_kItL, ev_kItS, ev_rng1, ev_kRng1, ev_lc, List.getElem?_cons_zero, List.getElem?_cons_succ, List.set_cons_zero, List.set_cons_succ, slots, List.map_cons, List.map_nil, List.length_cons, List.length_nil, List.replicate_succ, List.replicate_zero, List.cons_append, List.nil_append, List.append_nil, Nat.reduceSub, Nat.reduceAdd, Nat.zero_add, Nat.sub_self, Nat.sub_zero, Nat.reduceLeDiff, okD, okD?, add_r, lt_r, ge_r, gt_r, le_r, sub_r, len_l, len_t, neg_r, Bool.not_true, Bool.not_false, isi_t, Ty.sub, eq_i, decide_true, Int.ofNat_zero, Int.cast_ofNat_Int, Int.natCast_zero]
      exact ofS_tree _ _ _ _ _ rfl
    · have hd : decide (((r.length + 1 : Nat) : Int) = 0) = false := decide_eq_false (by omega)
      simp only [ev_getV, ev_kGet, ev_kGetO, ev_pure, ev_frz, ev_kFrz, ev_kFrzL, ev_kFrzD, ev_kFrzX, ev_se, ev_kSe, ev_kSeX, ev_st, ev_kStT, ev_kStB, ev_e1, ev_kE1, ev_e2, ev_kE2, ev_eL, ev_kEL, ev_nil, ev_cons, ev_kCons, ev_kCons2, ev_boolR, ev_kBoolR, ev_notB, ev_kNot, ev_andB, ev_kAndT, ev_kAndF, ev_orB, ev_kOrT, ev_kOrF, ev_band, ev_kBandT, ev_kBandF, ev_bor, ev_kBorT, ev_kBorF, ev_t1, ev_kT1n, ev_ifE, ev_kIfT, ev_kIfF, ev_callE, ev_call1, ev_call1b, ev_call2, ev_call2b, ev_call3, ev_call3b, ev_kCallT, ev_kCallO, ev_kCallX, ev_noPart, ev_intPart, ev_kPart, ev_eS, ev_kSl1, ev_kSl2, ev_kSl3, ev_lst, ev_tup, ev_tup0, ev_tup1, ev_tup2, ev_tup3, ev_tup4, ev_lst0, ev_lst1, ev_lst2, ev_lst3, ev_lst4, ev_eMt, ev_kMt, ev_seq, ev_kSeqN, ev_kSeqR, ev_kSeqX, ev_kSeqB, ev_kSeqC, ev_ret, ev_kRetT, ev_kRetO, ev_kRetX, ev_ifS, ev_kIfST, ev_kIfSF, ev_nx, ev_set, ev_kSetT, ev_own, ev_kOwn, ev_box, ev_kBox, ev_drop, ev_kDrop, ev_setIx, ev_kSetIx1, ev_kSetIx2, ev_kSetIx3, ev_kSetIx4, ev_par, ev_kPar, ev_asg, ev_kAsg, ev_for, ev_kFor, ev_it, ev_kItT, ev_kItL, ev_kItS, ev_rng1, ev_kRng1, ev_lc, List.getElem?_cons_zero, List.getElem?_cons_succ, List.set_cons_zero, List.set_cons_succ, slots, List.map_cons, List.map_nil, List.length_cons, List.length_nil, List.replicate_succ, List.replicate_zero, List.cons_append, List.nil_append, List.append_nil, Nat.reduceSub, Nat.reduceAdd, Nat.zero_add, Nat.sub_self, Nat.sub_zero, Nat.reduceLeDiff, okD, okD?, add_r, lt_r, ge_r, gt_r, le_r, sub_r, len_l, len_t, neg_r, Bool.not_true, Bool.not_false, isi_t, isi_i, Ty.sub, eq_i, hd, ix_0]
      exact ofS_tree _ _ _ _ _ rfl
    · have hd : decide (((r.length + 1 : Nat) : Int) = 0) = false := decide_eq_false (by omega)
      simp only [ev_getV, ev_kGet, ev_kGetO, ev_pure, ev_frz, ev_kFrz, ev_kFrzL, ev_kFrzD, ev_kFrzX, ev_se, ev_kSe, ev_kSeX, ev_st, ev_kStT, ev_kStB, ev_e1, ev_kE1, ev_e2, ev_kE2, ev_eL, ev_kEL, ev_nil, ev_cons, ev_kCons, ev_kCons2, ev_boolR, ev_kBoolR, ev_notB, ev_kNot, ev_andB, ev_kAndT, ev_kAndF, ev_orB, ev_kOrT, ev_kOrF, ev_band, ev_kBandT, ev_kBandF, ev_bor, ev_kBorT, ev_kBorF, ev_t1, ev_kT1n, ev_ifE, ev_kIfT, ev_kIfF, ev_callE, ev_call1, ev_call1b, ev_call2, ev_call2b, ev_call3, ev_call3b, ev_kCallT, ev_kCallO, ev_kCallX, ev_noPart, ev_intPart, ev_kPart, ev_eS, ev_kSl1, ev_kSl2, ev_kSl3, ev_lst, ev_tup, ev_tup0, ev_tup1, ev_tup2, ev_tup3, ev_tup4, ev_lst0, ev_lst1, ev_lst2, ev_lst3, ev_lst4, ev_eMt, ev_kMt, ev_seq, ev_kSeqN, ev_kSeqR, ev_kSeqX, ev_kSeqB, ev_kSeqC, ev_ret, ev_kRetT, ev_kRetO, ev_kRetX, ev_ifS, ev_kIfST, ev_kIfSF, ev_nx, ev_set, ev_kSetT, ev_own, ev_kOwn, ev_box, ev_kBox, ev_drop, ev_kDrop, ev_setIx, ev_kSetIx1, ev_kSetIx2, ev_kSetIx3, ev_kSetIx4, ev_par, ev_kPar, ev_asg, ev_kAsg, ev_for, ev_kFor, ev_it, ev_kItT, ev_kItL, ev_kItS, ev_rng1, ev_kRng1, ev_lc, List.getElem?_cons_zero, List.getElem?_cons_succ, List.set_cons_zero, List.set_cons_succ, slots, List.map_cons, List.map_nil, List.length_cons, List.length_nil, List.replicate_succ, List.replicate_zero, List.cons_append, List.nil_append, List.append_nil, Nat.reduceSub, Nat.reduceAdd, Nat.zero_add, Nat.sub_self, Nat.sub_zero, Nat.reduceLeDiff, okD, okD?, add_r, lt_r, ge_r, gt_r, le_r, sub_r, len_l, len_t, neg_r, Bool.not_true, Bool.not_false, isi_t, Ty.sub, eq_i, hd, ix_0]
      exact ofS_tree _ _ _ _ _ rfl
  intro n
  induction n with
  | zero =>
    intro d h b S
    cases h with
    | str h1 h2 => exact nof 0 _ _ b S (.inr (.inl ⟨_, rfl⟩))
    | int => exact nof 0 _ _ b S (.inl ⟨_, rfl⟩)
  | succ n ih =>
    intro d h b S
    cases h with
    | str h1 h2 => exact nof _ _ _ b S (.inr (.inl ⟨_, rfl⟩))
    | int => exact nof _ _ _ b S (.inl ⟨_, rfl⟩)
    | @tup n xs h1 h2 =>
      cases xs with
      | nil => exact nof _ _ _ b S (.inr (.inr (.inl rfl)))
      | cons x as =>
        have hx := h2 x List.mem_cons_self
        cases hx with
        | int => exact nof _ _ _ b S (.inr (.inr (.inr (.inl ⟨_, _, rfl⟩))))
        | tup _ _ => exact nof _ _ _ b S (.inr (.inr (.inr (.inr ⟨_, _, rfl⟩))))
        | @str n w k1 k2 =>
          have hd : decide (((as.length + 1 : Nat) : Int) = 0) = false := decide_eq_false (by omega)
          rw [S_law_is_built, mkT_of, G_law_is_built]
          have hs2 : seqS (G_law_is_built_s1 (S_law_is_built (n + 1))) (G_law_is_built_s2 (S_law_is_built (n + 1))) ⟨slots 4 [.t (.tup (.str w :: as))], S, S.length⟩ = .nx ⟨[some (.av (.t (.tup (.str w :: as)))), some (.av (.t (.dic sizes))), none, none], S, S.length⟩ := by
            have dd : ∀ m : M, dispE (pairC (pureE (.str [101, 109, 112, 116, 121])) (pureE (.int 1)) (pairC (pureE (.str [98, 101, 97, 100])) (pureE (.int 2)) (pairC (pureE (.str [116, 104, 101, 110])) (pureE (.int 3)) (pairC (pureE (.str [111, 114])) (pureE (.int 3)) (pairC (pureE (.str [97, 103, 97, 105, 110])) (pureE (.int 2)) pairN))))) m = .ok (.own (.dic sizes)) m := fun m => rfl
            unfold G_law_is_built_s1 G_law_is_built_s2
            simp only [ev_getV, ev_kGet, ev_kGetO, ev_pure, ev_frz, ev_kFrz, ev_kFrzL, ev_kFrzD, ev_kFrzX, ev_se, ev_kSe, ev_kSeX, ev_st, ev_kStT, ev_kStB, ev_e1, ev_kE1, ev_e2, ev_kE2, ev_eL, ev_kEL, ev_nil, ev_cons, ev_kCons, ev_kCons2, ev_boolR, ev_kBoolR, ev_notB, ev_kNot, ev_andB, ev_kAndT, ev_kAndF, ev_orB, ev_kOrT, ev_kOrF, ev_band, ev_kBandT, ev_kBandF, ev_bor, ev_kBorT, ev_kBorF, ev_t1, ev_kT1n, ev_ifE, ev_kIfT, ev_kIfF, ev_callE, ev_call1, ev_call1b, ev_call2, ev_call2b, ev_call3, ev_call3b, ev_kCallT, ev_kCallO, ev_kCallX, ev_noPart, ev_intPart, ev_kPart, ev_eS, ev_kSl1, ev_kSl2, ev_kSl3, ev_lst, ev_tup, ev_tup0, ev_tup1, ev_tup2, ev_tup3, ev_tup4, ev_lst0, ev_lst1, ev_lst2, ev_lst3, ev_lst4, ev_eMt, ev_kMt, ev_seq, ev_kSeqN, ev_kSeqR, ev_kSeqX, ev_kSeqB, ev_kSeqC, ev_ret, ev_kRetT, ev_kRetO, ev_kRetX, ev_ifS, ev_kIfST, ev_kIfSF, ev_nx, ev_set, ev_kSetT, ev_own, ev_kOwn, ev_box, ev_kBox, ev_drop, ev_kDrop, ev_setIx, ev_kSetIx1, ev_kSetIx2, ev_kSetIx3, ev_kSetIx4, ev_par, ev_kPar, ev_asg, ev_kAsg, ev_for, ev_kFor, ev_it, ev_kItT, ev_kItL, ev_kItS, ev_rng1, ev_kRng1, ev_lc, List.getElem?_cons_zero, List.getElem?_cons_succ, List.set_cons_zero, List.set_cons_succ, slots, List.map_cons, List.map_nil, List.length_cons, List.length_nil, List.replicate_succ, List.replicate_zero, List.cons_append, List.nil_append, List.append_nil, Nat.reduceSub, Nat.reduceAdd, Nat.zero_add, Nat.sub_self, Nat.sub_zero, Nat.reduceLeDiff, okD, okD?, add_r, lt_r, ge_r, gt_r, le_r, sub_r, len_l, len_t, neg_r, Bool.not_true, Bool.not_false, isi_t, isi_s, Ty.sub, eq_i, hd, ix_0, dd]
          have asc : ∀ (A B G : Stm) (m m1 : M), seqS A B m = .nx m1 → seqS A (seqS B G) m = G m1 := by
            intro A B G m m1 h
            rw [ev_seq] at h ⊢
            cases hA : A m with
            | nx m2 =>
              rw [hA, ev_kSeqN] at h
              rw [ev_kSeqN, ev_seq, h, ev_kSeqN]
            | ret v m2 => rw [hA] at h; cases h
            | brk m2 => rw [hA] at h; cases h
            | ct m2 => rw [hA] at h; cases h
            | exc x m2 => rw [hA] at h; cases h
            | stuck => rw [hA] at h; cases h
          rw [asc _ _ _ _ _ hs2]
          have g2 : ∀ m : M, m.σ[0]? = some (some (.av (.t (.tup (.str w :: as))))) → m.σ[1]? = some (some (.av (.t (.dic sizes)))) → eGet2 (getV 1) (frzE (e2 ixF (getV 0) (pureE (.int 0)))) (frzE (e1 negF (pureE (.int 1)))) m = .ok (.av (.t ((lookD sizes (.str w)).getD (.int (-1))))) m := fun m q0 q1 =>
            get2_ok _ _ _ m sizes w (.int (-1)) (by simp only [ev_getV, ev_kGet, ev_kGetO, ev_pure, ev_frz, ev_kFrz, ev_kFrzL, ev_kFrzD, ev_kFrzX, ev_se, ev_kSe, ev_kSeX, ev_st, ev_kStT, ev_kStB, ev_e1, ev_kE1, ev_e2, ev_kE2, ev_eL, ev_kEL, ev_nil, ev_cons, ev_kCons, ev_kCons2, ev_boolR, ev_kBoolR, ev_notB, ev_kNot, ev_andB, ev_kAndT, ev_kAndF, ev_orB, ev_kOrT, ev_kOrF, ev_band, ev_kBandT, ev_kBandF, ev_bor, ev_kBorT, ev_kBorF, ev_t1, ev_kT1n, ev_ifE, ev_kIfT, ev_kIfF, ev_callE, ev_call1, ev_call1b, ev_call2, ev_call2b, ev_call3, ev_call3b, ev_kCallT, ev_kCallO, ev_kCallX, ev_noPart, ev_intPart, ev_kPart, ev_eS, ev_kSl1, ev_kSl2, ev_kSl3, ev_lst, ev_tup, ev_tup0, ev_tup1, ev_tup2, ev_tup3, ev_tup4, ev_lst0, ev_lst1, ev_lst2, ev_lst3, ev_lst4, ev_eMt, ev_kMt, ev_seq, ev_kSeqN, ev_kSeqR, ev_kSeqX, ev_kSeqB, ev_kSeqC, ev_ret, ev_kRetT, ev_kRetO, ev_kRetX, ev_ifS, ev_kIfST, ev_kIfSF, ev_nx, ev_set, ev_kSetT, ev_own, ev_kOwn, ev_box, ev_kBox, ev_drop, ev_kDrop, ev_setIx, ev_kSetIx1, ev_kSetIx2, ev_kSetIx3, ev_kSetIx4, ev_par, ev_kPar, ev_asg, ev_kAsg, ev_for, ev_kFor, ev_it, ev_kItT, ev_kItL, ev_kItS, ev_rng1, ev_kRng1, ev_lc, List.getElem?_cons_zero, List.getElem?_cons_succ, List.set_cons_zero, List.set_cons_succ, slots, List.map_cons, List.map_nil, List.length_cons, List.length_nil, List.replicate_succ, List.replicate_zero, List.cons_append, List.nil_append, List.append_nil, Nat.reduceSub, Nat.reduceAdd, Nat.zero_add, Nat.sub_self, Nat.sub_zero, Nat.reduceLeDiff, okD, okD?, add_r, lt_r, ge_r, gt_r, le_r, sub_r, len_l, len_t, neg_r, Bool.not_true, Bool.not_false, q1]) (by simp only [ev_getV, ev_kGet, ev_kGetO, ev_pure, ev_frz, ev_kFrz, ev_kFrzL, ev_kFrzD, ev_kFrzX, ev_se, ev_kSe, ev_kSeX, ev_st, ev_kStT, ev_kStB, ev_e1, ev_kE1, ev_e2, ev_kE2, ev_eL, ev_kEL, ev_nil, ev_cons, ev_kCons, ev_kCons2, ev_boolR, ev_kBoolR, ev_notB, ev_kNot, ev_andB, ev_kAndT, ev_kAndF, ev_orB, ev_kOrT, ev_kOrF, ev_band, ev_kBandT, ev_kBandF, ev_bor, ev_kBorT, ev_kBorF, ev_t1, ev_kT1n, ev_ifE, ev_kIfT, ev_kIfF, ev_callE, ev_call1, ev_call1b, ev_call2, ev_call2b, ev_call3, ev_call3b, ev_kCallT, ev_kCallO, ev_kCallX, ev_noPart, ev_intPart, ev_kPart, ev_eS, ev_kSl1, ev_kSl2, ev_kSl3, ev_lst, ev_tup, ev_tup0, ev_tup1, ev_tup2, ev_tup3, ev_tup4, ev_lst0, ev_lst1, ev_lst2, ev_lst3, ev_lst4, ev_eMt, ev_kMt, ev_seq, ev_kSeqN, ev_kSeqR, ev_kSeqX, ev_kSeqB, ev_kSeqC, ev_ret, ev_kRetT, ev_kRetO, ev_kRetX, ev_ifS, ev_kIfST, ev_kIfSF, ev_nx, ev_set, ev_kSetT, ev_own, ev_kOwn, ev_box, ev_kBox, ev_drop, ev_kDrop, ev_setIx, ev_kSetIx1, ev_kSetIx2, ev_kSetIx3, ev_kSetIx4, ev_par, ev_kPar, ev_asg, ev_kAsg, ev_for, ev_kFor, ev_it, ev_kItT, ev_kItL, ev_kItS, ev_rng1, ev_kRng1, ev_lc, List.getElem?_cons_zero, List.getElem?_cons_succ, List.set_cons_zero, List.set_cons_succ, slots, List.map_cons, List.map_nil, List.length_cons, List.length_nil, List.replicate_succ, List.replicate_zero, List.cons_append, List.nil_append, List.append_nil, Nat.reduceSub, Nat.reduceAdd, Nat.zero_add, Nat.sub_self, Nat.sub_zero, Nat.reduceLeDiff, okD, okD?, add_r, lt_r, ge_r, gt_r, le_r, sub_r, len_l, len_t, neg_r, Bool.not_true, Bool.not_false, q0, ix_0]) (by simp only [ev_getV, ev_kGet, ev_kGetO, ev_pure, ev_frz, ev_kFrz, ev_kFrzL, ev_kFrzD, ev_kFrzX, ev_se, ev_kSe, ev_kSeX, ev_st, ev_kStT, ev_kStB, ev_e1, ev_kE1, ev_e2, ev_kE2, ev_eL, ev_kEL, ev_nil, ev_cons, ev_kCons, ev_kCons2, ev_boolR, ev_kBoolR, ev_notB, ev_kNot, ev_andB, ev_kAndT, ev_kAndF, ev_orB, ev_kOrT, ev_kOrF, ev_band, ev_kBandT, ev_kBandF, ev_bor, ev_kBorT, ev_kBorF, ev_t1, ev_kT1n, ev_ifE, ev_kIfT, ev_kIfF, ev_callE, ev_call1, ev_call1b, ev_call2, ev_call2b, ev_call3, ev_call3b, ev_kCallT, ev_kCallO, ev_kCallX, ev_noPart, ev_intPart, ev_kPart, ev_eS, ev_kSl1, ev_kSl2, ev_kSl3, ev_lst, ev_tup, ev_tup0, ev_tup1, ev_tup2, ev_tup3, ev_tup4, ev_lst0, ev_lst1, ev_lst2, ev_lst3, ev_lst4, ev_eMt, ev_kMt, ev_seq, ev_kSeqN, ev_kSeqR, ev_kSeqX, ev_kSeqB, ev_kSeqC, ev_ret, ev_kRetT, ev_kRetO, ev_kRetX, ev_ifS, ev_kIfST, ev_kIfSF, ev_nx, ev_set, ev_kSetT, ev_own, ev_kOwn, ev_box, ev_kBox, ev_drop, ev_kDrop, ev_setIx, ev_kSetIx1, ev_kSetIx2, ev_kSetIx3, ev_kSetIx4, ev_par, ev_kPar, ev_asg, ev_kAsg, ev_for, ev_kFor, ev_it, ev_kItT, ev_kItL, ev_kItS, ev_rng1, ev_kRng1, ev_lc, List.getElem?_cons_zero, List.getElem?_cons_succ, List.set_cons_zero, List.set_cons_succ, slots, List.map_cons, List.map_nil, List.length_cons, List.length_nil, List.replicate_succ, List.replicate_zero, List.cons_append, List.nil_append, List.append_nil, Nat.reduceSub, Nat.reduceAdd, Nat.zero_add, Nat.sub_self, Nat.sub_zero, Nat.reduceLeDiff, okD, okD?, add_r, lt_r, ge_r, gt_r, le_r, sub_r, len_l, len_t, neg_r, Bool.not_true, Bool.not_false])
          cases hf : isForm (.tup (.str w :: as)) with
          | false =>
            have har : ¬ ar w = some as.length := of_decide_eq_false hf
            have e2 : bui (n + 2) (.tup (.str w :: as)) = false := by
              show (match isForm (.tup (.str w :: as)), D.tup (.str w :: as) with
                | true, .tup (.str w :: as) => if w = wB then isBead (as.headD .non) else as.all (bui (n + 1))
                | _, _ => false) = _
              rw [hf]
            rw [e2]
            have lk : ∃ z : Int, (lookD sizes (.str w)).getD (.int (-1)) = .int z ∧ z ≠ ((as.length + 1 : Nat) : Int) := by
              rw [look_sizes]
              cases q : ar w with
              | none => exact ⟨-1, rfl, by omega⟩
              | some k => exact ⟨_, rfl, fun e => har (by rw [q]; congr 1; omega)⟩
            obtain ⟨z, lk1, lk2⟩ := lk
            unfold G_law_is_built_s3
            simp only [ev_getV, ev_kGet, ev_kGetO, ev_pure, ev_frz, ev_kFrz, ev_kFrzL, ev_kFrzD, ev_kFrzX, ev_se, ev_kSe, ev_kSeX, ev_st, ev_kStT, ev_kStB, ev_e1, ev_kE1, ev_e2, ev_kE2, ev_eL, ev_kEL, ev_nil, ev_cons, ev_kCons, ev_kCons2, ev_boolR, ev_kBoolR, ev_notB, ev_kNot, ev_andB, ev_kAndT, ev_kAndF, ev_orB, ev_kOrT, ev_kOrF, ev_band, ev_kBandT, ev_kBandF, ev_bor, ev_kBorT, ev_kBorF, ev_t1, ev_kT1n, ev_ifE, ev_kIfT, ev_kIfF, ev_callE, ev_call1, ev_call1b, ev_call2, ev_call2b, ev_call3, ev_call3b, ev_kCallT, ev_kCallO, ev_kCallX, ev_noPart, ev_intPart, ev_kPart, ev_eS, ev_kSl1, ev_kSl2, ev_kSl3, ev_lst, ev_tup, ev_tup0, ev_tup1, ev_tup2, ev_tup3, ev_tup4, ev_lst0, ev_lst1, ev_lst2, ev_lst3, ev_lst4, ev_eMt, ev_kMt, ev_seq, ev_kSeqN, ev_kSeqR, ev_kSeqX, ev_kSeqB, ev_kSeqC, ev_ret, ev_kRetT, ev_kRetO, ev_kRetX, ev_ifS, ev_kIfST, ev_kIfSF, ev_nx, ev_set, ev_kSetT, ev_own, ev_kOwn, ev_box, ev_kBox, ev_drop, ev_kDrop, ev_setIx, ev_kSetIx1, ev_kSetIx2, ev_kSetIx3, ev_kSetIx4, ev_par, ev_kPar, ev_asg, ev_kAsg, ev_for, ev_kFor, ev_it, ev_kItT, ev_kItL, ev_kItS, ev_rng1, ev_kRng1, ev_lc, List.getElem?_cons_zero, List.getElem?_cons_succ, List.set_cons_zero, List.set_cons_succ, slots, List.map_cons, List.map_nil, List.length_cons, List.length_nil, List.replicate_succ, List.replicate_zero, List.cons_append, List.nil_append, List.append_nil, Nat.reduceSub, Nat.reduceAdd, Nat.zero_add, Nat.sub_self, Nat.sub_zero, Nat.reduceLeDiff, okD, okD?, add_r, lt_r, ge_r, gt_r, le_r, sub_r, len_l, len_t, neg_r, Bool.not_true, Bool.not_false, g2, lk1, ne_i, decide_eq_true lk2]
            exact ofS_tree _ _ _ _ _ rfl
          | true =>
            have har : ar w = some as.length := of_decide_eq_true hf
            have e2 : bui (n + 2) (.tup (.str w :: as)) = if w = wB then isBead (as.headD .non) else as.all (bui (n + 1)) := by
              show (match isForm (.tup (.str w :: as)), D.tup (.str w :: as) with
                | true, .tup (.str w :: as) => if w = wB then isBead (as.headD .non) else as.all (bui (n + 1))
                | _, _ => false) = _
              rw [hf]
            rw [e2]
            have lk : (lookD sizes (.str w)).getD (.int (-1)) = .int ((as.length + 1 : Nat) : Int) := by
              rw [look_sizes, har]; rfl
            have lk2 : decide (((as.length + 1 : Nat) : Int) ≠ ((as.length + 1 : Nat) : Int)) = false := decide_eq_false fun h => h rfl
            by_cases hw : w = wB
            · rw [if_pos hw]
              have hl : as.length = 1 := by rw [hw] at har; exact (Option.some.inj har).symm
              obtain ⟨a, rfl⟩ := List.length_eq_one_iff.mp hl
              have ha := h2 a (by simp)
              show _ = FOut.ret (.av (.t (.bl (isBead a)))) S
              have hw' : decide (w = [98, 101, 97, 100]) = true := decide_eq_true hw
              have lk3 : decide (((2 : Nat) : Int) ≠ ((2 : Nat) : Int)) = false := by decide
              cases ha with
              | int =>
                unfold G_law_is_built_s3 G_law_is_built_s4
                simp only [ev_getV, ev_kGet, ev_kGetO, ev_pure, ev_frz, ev_kFrz, ev_kFrzL, ev_kFrzD, ev_kFrzX, ev_se, ev_kSe, ev_kSeX, ev_st, ev_kStT, ev_kStB, ev_e1, ev_kE1, ev_e2, ev_kE2, ev_eL, ev_kEL, ev_nil, ev_cons, ev_kCons, ev_kCons2, ev_boolR, ev_kBoolR, ev_notB, ev_kNot, ev_andB, ev_kAndT, ev_kAndF, ev_orB, ev_kOrT, ev_kOrF, ev_band, ev_kBandT, ev_kBandF, ev_bor, ev_kBorT, ev_kBorF, ev_t1, ev_kT1n, ev_ifE, ev_kIfT, ev_kIfF, ev_callE, ev_call1, ev_call1b, ev_call2, ev_call2b, ev_call3, ev_call3b, ev_kCallT, ev_kCallO, ev_kCallX, ev_noPart, ev_intPart, ev_kPart, ev_eS, ev_kSl1, ev_kSl2, ev_kSl3, ev_lst, ev_tup, ev_tup0, ev_tup1, ev_tup2, ev_tup3, ev_tup4, ev_lst0, ev_lst1, ev_lst2, ev_lst3, ev_lst4, ev_eMt, ev_kMt, ev_seq, ev_kSeqN, ev_kSeqR, ev_kSeqX, ev_kSeqB, ev_kSeqC, ev_ret, ev_kRetT, ev_kRetO, ev_kRetX, ev_ifS, ev_kIfST, ev_kIfSF, ev_nx, ev_set, ev_kSetT, ev_own, ev_kOwn, ev_box, ev_kBox, ev_drop, ev_kDrop, ev_setIx, ev_kSetIx1, ev_kSetIx2, ev_kSetIx3, ev_kSetIx4, ev_par, ev_kPar, ev_asg, ev_kAsg, ev_for, ev_kFor, ev_it, ev_kItT, ev_kItL, ev_kItS, ev_rng1, ev_kRng1, ev_lc, List.getElem?_cons_zero, List.getElem?_cons_succ, List.set_cons_zero, List.set_cons_succ, slots, List.map_cons, List.map_nil, List.length_cons, List.length_nil, List.replicate_succ, List.replicate_zero, List.cons_append, List.nil_append, List.append_nil, Nat.reduceSub, Nat.reduceAdd, Nat.zero_add, Nat.sub_self, Nat.sub_zero, Nat.reduceLeDiff, okD, okD?, add_r, lt_r, ge_r, gt_r, le_r, sub_r, len_l, len_t, neg_r, Bool.not_true, Bool.not_false, g2, lk, ne_i, lk2, lk3, ix_0, ix_1, eq_s w [98, 101, 97, 100] _ k1 rfl, hw', isi_i, Ty.sub]
                exact ofS_tree _ _ _ _ _ rfl
              | tup _ _ =>
                unfold G_law_is_built_s3 G_law_is_built_s4
                simp only [ev_getV, ev_kGet, ev_kGetO, ev_pure, ev_frz, ev_kFrz, ev_kFrzL, ev_kFrzD, ev_kFrzX, ev_se, ev_kSe, ev_kSeX, ev_st, ev_kStT, ev_kStB, ev_e1, ev_kE1, ev_e2, ev_kE2, ev_eL, ev_kEL, ev_nil, ev_cons, ev_kCons, ev_kCons2, ev_boolR, ev_kBoolR, ev_notB, ev_kNot, ev_andB, ev_kAndT, ev_kAndF, ev_orB, ev_kOrT, ev_kOrF, ev_band, ev_kBandT, ev_kBandF, ev_bor, ev_kBorT, ev_kBorF, ev_t1, ev_kT1n, ev_ifE, ev_kIfT, ev_kIfF, ev_callE, ev_call1, ev_call1b, ev_call2, ev_call2b, ev_call3, ev_call3b, ev_kCallT, ev_kCallO, ev_kCallX, ev_noPart, ev_intPart, ev_kPart, ev_eS, ev_kSl1, ev_kSl2, ev_kSl3, ev_lst, ev_tup, ev_tup0, ev_tup1, ev_tup2, ev_tup3, ev_tup4, ev_lst0, ev_lst1, ev_lst2, ev_lst3, ev_lst4, ev_eMt, ev_kMt, ev_seq, ev_kSeqN, ev_kSeqR, ev_kSeqX, ev_kSeqB, ev_kSeqC, ev_ret, ev_kRetT, ev_kRetO, ev_kRetX, ev_ifS, ev_kIfST, ev_kIfSF, ev_nx, ev_set, ev_kSetT, ev_own, ev_kOwn, ev_box, ev_kBox, ev_drop, ev_kDrop, ev_setIx, ev_kSetIx1, ev_kSetIx2, ev_kSetIx3, ev_kSetIx4, ev_par, ev_kPar, ev_asg, ev_kAsg, ev_for, ev_kFor, ev_it, ev_kItT, ev_kItL, ev_kItS, ev_rng1, ev_kRng1, ev_lc, List.getElem?_cons_zero, List.getElem?_cons_succ, List.set_cons_zero, List.set_cons_succ, slots, List.map_cons, List.map_nil, List.length_cons, List.length_nil, List.replicate_succ, List.replicate_zero, List.cons_append, List.nil_append, List.append_nil, Nat.reduceSub, Nat.reduceAdd, Nat.zero_add, Nat.sub_self, Nat.sub_zero, Nat.reduceLeDiff, okD, okD?, add_r, lt_r, ge_r, gt_r, le_r, sub_r, len_l, len_t, neg_r, Bool.not_true, Bool.not_false, g2, lk, ne_i, lk2, lk3, ix_0, ix_1, eq_s w [98, 101, 97, 100] _ k1 rfl, hw', isi_t, Ty.sub]
                exact ofS_tree _ _ _ _ _ rfl
              | @str n x q1 q2 =>
                by_cases hx : x.length = 1
                · obtain ⟨c, rfl⟩ := List.length_eq_one_iff.mp hx
                  have hd1 : decide (((1 : Nat) : Int) = 1) = true := rfl
                  unfold G_law_is_built_s3 G_law_is_built_s4
                  simp only [ev_getV, ev_kGet, ev_kGetO, ev_pure, ev_frz, ev_kFrz, ev_kFrzL, ev_kFrzD, ev_kFrzX, ev_se, ev_kSe, ev_kSeX, ev_st, ev_kStT, ev_kStB, ev_e1, ev_kE1, ev_e2, ev_kE2, ev_eL, ev_kEL, ev_nil, ev_cons, ev_kCons, ev_kCons2, ev_boolR, ev_kBoolR, ev_notB, ev_kNot, ev_andB, ev_kAndT, ev_kAndF, ev_orB, ev_kOrT, ev_kOrF, ev_band, ev_kBandT, ev_kBandF, ev_bor, ev_kBorT, ev_kBorF, ev_t1, ev_kT1n, ev_ifE, ev_kIfT, ev_kIfF, ev_callE, ev_call1, ev_call1b, ev_call2, ev_call2b, ev_call3, ev_call3b, ev_kCallT, ev_kCallO, ev_kCallX, ev_noPart, ev_intPart, ev_kPart, ev_eS, ev_kSl1, ev_kSl2, ev_kSl3, ev_lst, ev_tup, ev_tup0, ev_tup1, ev_tup2, ev_tup3, ev_tup4, ev_lst0, ev_lst1, ev_lst2, ev_lst3, ev_lst4, ev_eMt, ev_kMt, ev_seq, ev_kSeqN, ev_kSeqR, ev_kSeqX, ev_kSeqB, ev_kSeqC, ev_ret, ev_kRetT, ev_kRetO, ev_kRetX, ev_ifS, ev_kIfST, ev_kIfSF, ev_nx, ev_set, ev_kSetT, ev_own, ev_kOwn, ev_box, ev_kBox, ev_drop, ev_kDrop, ev_setIx, ev_kSetIx1, ev_kSetIx2, ev_kSetIx3, ev_kSetIx4, ev_par, ev_kPar, ev_asg, ev_kAsg, ev_for, ev_kFor, ev_it, ev_kItT, ev_kItL, ev_kItS, ev_rng1, ev_kRng1, ev_lc, List.getElem?_cons_zero, List.getElem?_cons_succ, List.set_cons_zero, List.set_cons_succ, slots, List.map_cons, List.map_nil, List.length_cons, List.length_nil, List.replicate_succ, List.replicate_zero, List.cons_append, List.nil_append, List.append_nil, Nat.reduceSub, Nat.reduceAdd, Nat.zero_add, Nat.sub_self, Nat.sub_zero, Nat.reduceLeDiff, okD, okD?, add_r, lt_r, ge_r, gt_r, le_r, sub_r, len_l, len_t, neg_r, Bool.not_true, Bool.not_false, g2, lk, ne_i, lk2, lk3, ix_0, ix_1, eq_s w [98, 101, 97, 100] _ k1 rfl, hw', isi_s, Ty.sub, len_st _ _ q2, eq_i, hd1, in_sg]
                  exact ofS_tree _ _ _ _ _ rfl
                · have hd1 : decide ((x.length : Int) = 1) = false := decide_eq_false (by omega)
                  have e3 : isBead (.str x) = false := by
                    unfold isBead
                    split
                    · rename_i c q; cases q; exact absurd rfl hx
                    · rfl
                  unfold G_law_is_built_s3 G_law_is_built_s4
                  simp only [ev_getV, ev_kGet, ev_kGetO, ev_pure, ev_frz, ev_kFrz, ev_kFrzL, ev_kFrzD, ev_kFrzX, ev_se, ev_kSe, ev_kSeX, ev_st, ev_kStT, ev_kStB, ev_e1, ev_kE1, ev_e2, ev_kE2, ev_eL, ev_kEL, ev_nil, ev_cons, ev_kCons, ev_kCons2, ev_boolR, ev_kBoolR, ev_notB, ev_kNot, ev_andB, ev_kAndT, ev_kAndF, ev_orB, ev_kOrT, ev_kOrF, ev_band, ev_kBandT, ev_kBandF, ev_bor, ev_kBorT, ev_kBorF, ev_t1, ev_kT1n, ev_ifE, ev_kIfT, ev_kIfF, ev_callE, ev_call1, ev_call1b, ev_call2, ev_call2b, ev_call3, ev_call3b, ev_kCallT, ev_kCallO, ev_kCallX, ev_noPart, ev_intPart, ev_kPart, ev_eS, ev_kSl1, ev_kSl2, ev_kSl3, ev_lst, ev_tup, ev_tup0, ev_tup1, ev_tup2, ev_tup3, ev_tup4, ev_lst0, ev_lst1, ev_lst2, ev_lst3, ev_lst4, ev_eMt, ev_kMt, ev_seq, ev_kSeqN, ev_kSeqR, ev_kSeqX, ev_kSeqB, ev_kSeqC, ev_ret, ev_kRetT, ev_kRetO, ev_kRetX, ev_ifS, ev_kIfST, ev_kIfSF, ev_nx, ev_set, ev_kSetT, ev_own, ev_kOwn, ev_box, ev_kBox, ev_drop, ev_kDrop, ev_setIx, ev_kSetIx1, ev_kSetIx2, ev_kSetIx3, ev_kSetIx4, ev_par, ev_kPar, ev_asg, ev_kAsg, ev_for, ev_kFor, ev_it, ev_kItT, ev_kItL, ev_kItS, ev_rng1, ev_kRng1, ev_lc, List.getElem?_cons_zero, List.getElem?_cons_succ, List.set_cons_zero, List.set_cons_succ, slots, List.map_cons, List.map_nil, List.length_cons, List.length_nil, List.replicate_succ, List.replicate_zero, List.cons_append, List.nil_append, List.append_nil, Nat.reduceSub, Nat.reduceAdd, Nat.zero_add, Nat.sub_self, Nat.sub_zero, Nat.reduceLeDiff, okD, okD?, add_r, lt_r, ge_r, gt_r, le_r, sub_r, len_l, len_t, neg_r, Bool.not_true, Bool.not_false, g2, lk, ne_i, lk2, lk3, ix_0, ix_1, eq_s w [98, 101, 97, 100] _ k1 rfl, hw', isi_s, Ty.sub, len_st _ _ q2, eq_i, hd1, e3]
                  exact ofS_tree _ _ _ _ _ rfl
            · rw [if_neg hw]
              have hw' : decide (w = [98, 101, 97, 100]) = false := decide_eq_false hw
              have lp := lc_ok 3 (stE (G_law_is_built_e1 (S_law_is_built (n + 1)))) (fun a => .bl (bui (n + 1) a)) [some (.av (.t (.tup (.str w :: as)))), some (.av (.t (.dic sizes))), none, none] S S.length rfl as (by simp at h1; omega) fun a ha => by
                have := ih a (h2 a (List.mem_cons_of_mem _ ha)) S.length S
                unfold G_law_is_built_e1
                simp only [ev_getV, ev_kGet, ev_kGetO, ev_pure, ev_frz, ev_kFrz, ev_kFrzL, ev_kFrzD, ev_kFrzX, ev_se, ev_kSe, ev_kSeX, ev_st, ev_kStT, ev_kStB, ev_e1, ev_kE1, ev_e2, ev_kE2, ev_eL, ev_kEL, ev_nil, ev_cons, ev_kCons, ev_kCons2, ev_boolR, ev_kBoolR, ev_notB, ev_kNot, ev_andB, ev_kAndT, ev_kAndF, ev_orB, ev_kOrT, ev_kOrF, ev_band, ev_kBandT, ev_kBandF, ev_bor, ev_kBorT, ev_kBorF, ev_t1, ev_kT1n, ev_ifE, ev_kIfT, ev_kIfF, ev_callE, ev_call1, ev_call1b, ev_call2, ev_call2b, ev_call3, ev_call3b, ev_kCallT, ev_kCallO, ev_kCallX, ev_noPart, ev_intPart, ev_kPart, ev_eS, ev_kSl1, ev_kSl2, ev_kSl3, ev_lst, ev_tup, ev_tup0, ev_tup1, ev_tup2, ev_tup3, ev_tup4, ev_lst0, ev_lst1, ev_lst2, ev_lst3, ev_lst4, ev_eMt, ev_kMt, ev_seq, ev_kSeqN, ev_kSeqR, ev_kSeqX, ev_kSeqB, ev_kSeqC, ev_ret, ev_kRetT, ev_kRetO, ev_kRetX, ev_ifS, ev_kIfST, ev_kIfSF, ev_nx, ev_set, ev_kSetT, ev_own, ev_kOwn, ev_box, ev_kBox, ev_drop, ev_kDrop, ev_setIx, ev_kSetIx1, ev_kSetIx2, ev_kSetIx3, ev_kSetIx4, ev_par, ev_kPar, ev_asg, ev_kAsg, ev_for, ev_kFor, ev_it, ev_kItT, ev_kItL, ev_kItS, ev_rng1, ev_kRng1, ev_lc, List.getElem?_cons_zero, List.getElem?_cons_succ, List.set_cons_zero, List.set_cons_succ, slots, List.map_cons, List.map_nil, List.length_cons, List.length_nil, List.replicate_succ, List.replicate_zero, List.cons_append, List.nil_append, List.append_nil, Nat.reduceSub, Nat.reduceAdd, Nat.zero_add, Nat.sub_self, Nat.sub_zero, Nat.reduceLeDiff, okD, okD?, add_r, lt_r, ge_r, gt_r, le_r, sub_r, len_l, len_t, neg_r, Bool.not_true, Bool.not_false, this]
              unfold G_law_is_built_s3 G_law_is_built_s4 G_law_is_built_s5
              simp only [ev_getV, ev_kGet, ev_kGetO, ev_pure, ev_frz, ev_kFrz, ev_kFrzL, ev_kFrzD, ev_kFrzX, ev_se, ev_kSe, ev_kSeX, ev_st, ev_kStT, ev_kStB, ev_e1, ev_kE1, ev_e2, ev_kE2, ev_eL, ev_kEL, ev_nil, ev_cons, ev_kCons, ev_kCons2, ev_boolR, ev_kBoolR, ev_notB, ev_kNot, ev_andB, ev_kAndT, ev_kAndF, ev_orB, ev_kOrT, ev_kOrF, ev_band, ev_kBandT, ev_kBandF, ev_bor, ev_kBorT, ev_kBorF, ev_t1, ev_kT1n, ev_ifE, ev_kIfT, ev_kIfF, ev_callE, ev_call1, ev_call1b, ev_call2, ev_call2b, ev_call3, ev_call3b, ev_kCallT, ev_kCallO, ev_kCallX, ev_noPart, ev_intPart, ev_kPart, ev_eS, ev_kSl1, ev_kSl2, ev_kSl3, ev_lst, ev_tup, ev_tup0, ev_tup1, ev_tup2, ev_tup3, ev_tup4, ev_lst0, ev_lst1, ev_lst2, ev_lst3, ev_lst4, ev_eMt, ev_kMt, ev_seq, ev_kSeqN, ev_kSeqR, ev_kSeqX, ev_kSeqB, ev_kSeqC, ev_ret, ev_kRetT, ev_kRetO, ev_kRetX, ev_ifS, ev_kIfST, ev_kIfSF, ev_nx, ev_set, ev_kSetT, ev_own, ev_kOwn, ev_box, ev_kBox, ev_drop, ev_kDrop, ev_setIx, ev_kSetIx1, ev_kSetIx2, ev_kSetIx3, ev_kSetIx4, ev_par, ev_kPar, ev_asg, ev_kAsg, ev_for, ev_kFor, ev_it, ev_kItT, ev_kItL, ev_kItS, ev_rng1, ev_kRng1, ev_lc, List.getElem?_cons_zero, List.getElem?_cons_succ, List.set_cons_zero, List.set_cons_succ, slots, List.map_cons, List.map_nil, List.length_cons, List.length_nil, List.replicate_succ, List.replicate_zero, List.cons_append, List.nil_append, List.append_nil, Nat.reduceSub, Nat.reduceAdd, Nat.zero_add, Nat.sub_self, Nat.sub_zero, Nat.reduceLeDiff, okD, okD?, add_r, lt_r, ge_r, gt_r, le_r, sub_r, len_l, len_t, neg_r, Bool.not_true, Bool.not_false, g2, lk, ne_i, lk2, ix_0, eq_s w [98, 101, 97, 100] _ k1 rfl, hw', sl_1, lp, all_l _ _ _ (bls_map (bui (n + 1)) as)]
              have e4 : (as.map (bui (n + 1))).all id = as.all (bui (n + 1)) := by
                rw [List.all_map]; rfl
              rw [e4]
              exact ofS_tree _ _ _ _ _ rfl

end Lm
end part_Ld4_k22

section part_Ld5_k22
set_option Elab.async false
set_option linter.all false
set_option maxRecDepth 100000
set_option maxHeartbeats 8000000
set_option autoImplicit false
open PySem BL Lw
namespace Lm
theorem parts : ∀ (n : Nat) (d : D), Tre n d → bui (n + 1) d = true → ∀ (b : Nat) (S : List Cell), S_law_parts (n + 1) b [.t d] S = .ret (.av (.t (.int (prt (n + 1) d)))) S ∧ S_law_deep (n + 1) b [.t d] S = .ret (.av (.t (.int (dpt (n + 1) d)))) S := by
  intro n
  induction n with
  | zero =>
    intro d h hb
    have nf : isForm d = false := by cases h <;> rfl
    unfold bui at hb
    rw [nf] at hb
    cases hb
  | succ n ih =>
    intro d h hb b S
    have hf : isForm d = true := by
      cases q : isForm d with
      | true => rfl
      | false => unfold bui at hb; rw [q] at hb; cases hb
    cases h with
    | str _ _ => cases hf
    | int => cases hf
    | @tup n xs h1 h2 =>
      cases xs with
      | nil => cases hf
      | cons x as =>
        have hx := h2 x List.mem_cons_self
        cases x with
        | str w =>
          cases hx with
          | str k1 k2 =>
            have har : ar w = some as.length := of_decide_eq_true hf
            have e2 : bui (n + 2) (.tup (.str w :: as)) = if w = wB then isBead (as.headD .non) else as.all (bui (n + 1)) := by
              show (match isForm (.tup (.str w :: as)), D.tup (.str w :: as) with
                | true, .tup (.str w :: as) => if w = wB then isBead (as.headD .non) else as.all (bui (n + 1))
                | _, _ => false) = _
              rw [hf]
            have e3 : prt (n + 2) (.tup (.str w :: as)) = if w = wE ∨ w = wB then 1 else 1 + (as.map (prt (n + 1))).sum := rfl
            have e4 : dpt (n + 2) (.tup (.str w :: as)) = if w = wE ∨ w = wB then 1 else 1 + (greatest (as.map (dpt (n + 1)))).getD 0 := rfl
            rw [e3, e4]
            by_cases hw : w = wE ∨ w = wB
            · have hw' : decide (w = [101, 109, 112, 116, 121] ∨ w = [98, 101, 97, 100]) = true := decide_eq_true hw
              rw [if_pos hw, if_pos hw]
              constructor
              · rw [S_law_parts, mkT_of, G_law_parts]
                unfold G_law_parts_s1
                simp only [ev_getV, ev_kGet, ev_kGetO, ev_pure, ev_frz, ev_kFrz, ev_kFrzL, ev_kFrzD, ev_kFrzX, ev_se, ev_kSe, ev_kSeX, ev_st, ev_kStT, ev_kStB, ev_e1, ev_kE1, ev_e2, ev_kE2, ev_eL, ev_kEL, ev_nil, ev_cons, ev_kCons, ev_kCons2, ev_boolR, ev_kBoolR, ev_notB, ev_kNot, ev_andB, ev_kAndT, ev_kAndF, ev_orB, ev_kOrT, ev_kOrF, ev_band, ev_kBandT, ev_kBandF, ev_bor, ev_kBorT, ev_kBorF, ev_t1, ev_kT1n, ev_ifE, ev_kIfT, ev_kIfF, ev_callE, ev_call1, ev_call1b, ev_call2, ev_call2b, ev_call3, ev_call3b, ev_kCallT, ev_kCallO, ev_kCallX, ev_noPart, ev_intPart, ev_kPart, ev_eS, ev_kSl1, ev_kSl2, ev_kSl3, ev_lst, ev_tup, ev_tup0, ev_tup1, ev_tup2, ev_tup3, ev_tup4, ev_lst0, ev_lst1, ev_lst2, ev_lst3, ev_lst4, ev_eMt, ev_kMt, ev_seq, ev_kSeqN, ev_kSeqR, ev_kSeqX, ev_kSeqB, ev_kSeqC, ev_ret, ev_kRetT, ev_kRetO, ev_kRetX, ev_ifS, ev_kIfST, ev_kIfSF, ev_nx, ev_set, ev_kSetT, ev_own, ev_kOwn, ev_box, ev_kBox, ev_drop, ev_kDrop, ev_setIx, ev_kSetIx1, ev_kSetIx2, ev_kSetIx3, ev_kSetIx4, ev_par, ev_kPar, ev_asg, ev_kAsg, ev_for, ev_kFor, ev_it, ev_kItT, ev_kItL, ev_kItS, ev_rng1, ev_kRng1, ev_lc, List.getElem?_cons_zero, List.getElem?_cons_succ, List.set_cons_zero, List.set_cons_succ, slots, List.map_cons, List.map_nil, List.length_cons, List.length_nil, List.replicate_succ, List.replicate_zero, List.cons_append, List.nil_append, List.append_nil, Nat.reduceSub, Nat.reduceAdd, Nat.zero_add, Nat.sub_self, Nat.sub_zero, Nat.reduceLeDiff, okD, okD?, add_r, lt_r, ge_r, gt_r, le_r, sub_r, len_l, len_t, neg_r, Bool.not_true, Bool.not_false, ix_0, in_2, hw']
                exact ofS_tree _ _ _ _ _ rfl
              · rw [S_law_deep, mkT_of, G_law_deep]
                unfold G_law_deep_s1
                simp only [ev_getV, ev_kGet, ev_kGetO, ev_pure, ev_frz, ev_kFrz, ev_kFrzL, ev_kFrzD, ev_kFrzX, ev_se, ev_kSe, ev_kSeX, ev_st, ev_kStT, ev_kStB, ev_e1, ev_kE1, ev_e2, ev_kE2, ev_eL, ev_kEL, ev_nil, ev_cons, ev_kCons, ev_kCons2, ev_boolR, ev_kBoolR, ev_notB, ev_kNot, ev_andB, ev_kAndT, ev_kAndF, ev_orB, ev_kOrT, ev_kOrF, ev_band, ev_kBandT, ev_kBandF, ev_bor, ev_kBorT, ev_kBorF, ev_t1, ev_kT1n, ev_ifE, ev_kIfT, ev_kIfF, ev_callE, ev_call1, ev_call1b, ev_call2, ev_call2b, ev_call3, ev_call3b, ev_kCallT, ev_kCallO, ev_kCallX, ev_noPart, ev_intPart, ev_kPart, ev_eS, ev_kSl1, ev_kSl2, ev_kSl3, ev_lst, ev_tup, ev_tup0, ev_tup1, ev_tup2, ev_tup3, ev_tup4, ev_lst0, ev_lst1, ev_lst2, ev_lst3, ev_lst4, ev_eMt, ev_kMt, ev_seq, ev_kSeqN, ev_kSeqR, ev_kSeqX, ev_kSeqB, ev_kSeqC, ev_ret, ev_kRetT, ev_kRetO, ev_kRetX, ev_ifS, ev_kIfST, ev_kIfSF, ev_nx, ev_set, ev_kSetT, ev_own, ev_kOwn, ev_box, ev_kBox, ev_drop, ev_kDrop, ev_setIx, ev_kSetIx1, ev_kSetIx2, ev_kSetIx3, ev_kSetIx4, ev_par, ev_kPar, ev_asg, ev_kAsg, ev_for, ev_kFor, ev_it, ev_kItT, ev_kItL, ev_kItS, ev_rng1, ev_kRng1, ev_lc, List.getElem?_cons_zero, List.getElem?_cons_succ, List.set_cons_zero, List.set_cons_succ, slots, List.map_cons, List.map_nil, List.length_cons, List.length_nil, List.replicate_succ, List.replicate_zero, List.cons_append, List.nil_append, List.append_nil, Nat.reduceSub, Nat.reduceAdd, Nat.zero_add, Nat.sub_self, Nat.sub_zero, Nat.reduceLeDiff, okD, okD?, add_r, lt_r, ge_r, gt_r, le_r, sub_r, len_l, len_t, neg_r, Bool.not_true, Bool.not_false, ix_0, in_2, hw']
                exact ofS_tree _ _ _ _ _ rfl
            · have hw' : decide (w = [101, 109, 112, 116, 121] ∨ w = [98, 101, 97, 100]) = false := decide_eq_false hw
              rw [if_neg hw, if_neg hw]
              rw [e2, if_neg fun e => hw (.inr e)] at hb
              have hall : ∀ a ∈ as, ∀ (b : Nat) (S : List Cell), S_law_parts (n + 1) b [.t a] S = .ret (.av (.t (.int (prt (n + 1) a)))) S ∧ S_law_deep (n + 1) b [.t a] S = .ret (.av (.t (.int (dpt (n + 1) a)))) S := fun a ha => ih a (h2 a (List.mem_cons_of_mem _ ha)) (List.all_eq_true.mp hb a ha)
              have hl : as.length ≤ 100 := by simp at h1; omega
              constructor
              · have lp := lc_ok 1 (stE (G_law_parts_e1 (S_law_parts (n + 1)))) (fun a => .int (prt (n + 1) a)) [some (.av (.t (.tup (.str w :: as)))), none] S S.length rfl as hl fun a ha => by
                  have := (hall a ha S.length S).1
                  unfold G_law_parts_e1
                  simp only [ev_getV, ev_kGet, ev_kGetO, ev_pure, ev_frz, ev_kFrz, ev_kFrzL, ev_kFrzD, ev_kFrzX, ev_se, ev_kSe, ev_kSeX, ev_st, ev_kStT, ev_kStB, ev_e1, ev_kE1, ev_e2, ev_kE2, ev_eL, ev_kEL, ev_nil, ev_cons, ev_kCons, ev_kCons2, ev_boolR, ev_kBoolR, ev_notB, ev_kNot, ev_andB, ev_kAndT, ev_kAndF, ev_orB, ev_kOrT, ev_kOrF, ev_band, ev_kBandT, ev_kBandF, ev_bor, ev_kBorT, ev_kBorF, ev_t1, ev_kT1n, ev_ifE, ev_kIfT, ev_kIfF, ev_callE, ev_call1, ev_call1b, ev_call2, ev_call2b, ev_call3, ev_call3b, ev_kCallT, ev_kCallO, ev_kCallX, ev_noPart, ev_intPart, ev_kPart, ev_eS, ev_kSl1, ev_kSl2, ev_kSl3, ev_lst, ev_tup, ev_tup0, ev_tup1, ev_tup2, ev_tup3, ev_tup4, ev_lst0, ev_lst1, ev_lst2, ev_lst3, ev_lst4, ev_eMt, ev_kMt, ev_seq, ev_kSeqN, ev_kSeqR, ev_kSeqX, ev_kSeqB, ev_kSeqC, ev_ret, ev_kRetT, ev_kRetO, ev_kRetX, ev_ifS, ev_kIfST, ev_kIfSF, ev_nx, ev_set, ev_kSetT, ev_own, ev_kOwn, ev_box, ev_kBox, ev_drop, ev_kDrop, ev_setIx, ev_kSetIx1, ev_kSetIx2, ev_kSetIx3, ev_kSetIx4, ev_par, ev_kPar, ev_asg, ev_kAsg, ev_for, ev_kFor, ev_it, ev_kItT, ev_kItL, ev_kItS, ev_rng1, ev_kRng1, ev_lc, List.getElem?_cons_zero, List.getElem?_cons_succ, List.set_cons_zero, List.set_cons_succ, slots, List.map_cons, List.map_nil, List.length_cons, List.length_nil, List.replicate_succ, List.replicate_zero, List.cons_append, List.nil_append, List.append_nil, Nat.reduceSub, Nat.reduceAdd, Nat.zero_add, Nat.sub_self, Nat.sub_zero, Nat.reduceLeDiff, okD, okD?, add_r, lt_r, ge_r, gt_r, le_r, sub_r, len_l, len_t, neg_r, Bool.not_true, Bool.not_false, this]
                rw [S_law_parts, mkT_of, G_law_parts]
                unfold G_law_parts_s1 G_law_parts_s2
                simp only [ev_getV, ev_kGet, ev_kGetO, ev_pure, ev_frz, ev_kFrz, ev_kFrzL, ev_kFrzD, ev_kFrzX, ev_se, ev_kSe, ev_kSeX, ev_st, ev_kStT, ev_kStB, ev_e1, ev_kE1, ev_e2, ev_kE2, ev_eL, ev_kEL, ev_nil, ev_cons, ev_kCons, ev_kCons2, ev_boolR, ev_kBoolR, ev_notB, ev_kNot, ev_andB, ev_kAndT, ev_kAndF, ev_orB, ev_kOrT, ev_kOrF, ev_band, ev_kBandT, ev_kBandF, ev_bor, ev_kBorT, ev_kBorF, ev_t1, ev_kT1n, ev_ifE, ev_kIfT, ev_kIfF, ev_callE, ev_call1, ev_call1b, ev_call2, ev_call2b, ev_call3, ev_call3b, ev_kCallT, ev_kCallO, ev_kCallX, ev_noPart, ev_intPart, ev_kPart, ev_eS, ev_kSl1, ev_kSl2, ev_kSl3, ev_lst, ev_tup, ev_tup0, ev_tup1, ev_tup2, ev_tup3, ev_tup4, ev_lst0, ev_lst1, ev_lst2, ev_lst3, ev_lst4, ev_eMt, ev_kMt, ev_seq, ev_kSeqN, ev_kSeqR, ev_kSeqX, ev_kSeqB, ev_kSeqC, ev_ret, ev_kRetT, ev_kRetO, ev_kRetX, ev_ifS, ev_kIfST, ev_kIfSF, ev_nx, ev_set, ev_kSetT, ev_own, ev_kOwn, ev_box, ev_kBox, ev_drop, ev_kDrop, ev_setIx, ev_kSetIx1, ev_kSetIx2, ev_kSetIx3, ev_kSetIx4, ev_par, ev_kPar, ev_asg, ev_kAsg, ev_for, ev_kFor, ev_it, ev_kItT, ev_kItL, ev_kItS, ev_rng1, ev_kRng1, ev_lc, List.getElem?_cons_zero, List.getElem?_cons_succ, List.set_cons_zero, List.set_cons_succ, slots, List.map_cons, List.map_nil, List.length_cons, List.length_nil, List.replicate_succ, List.replicate_zero, List.cons_append, List.nil_append, List.append_nil, Nat.reduceSub, Nat.reduceAdd, Nat.zero_add, Nat.sub_self, Nat.sub_zero, Nat.reduceLeDiff, okD, okD?, add_r, lt_r, ge_r, gt_r, le_r, sub_r, len_l, len_t, neg_r, Bool.not_true, Bool.not_false, ix_0, in_2, hw', sl_1, lp, sum_l _ _ _ (ints_map (prt (n + 1)) as)]
                exact ofS_tree _ _ _ _ _ rfl
              · have lp := lc_ok 1 (stE (G_law_deep_e1 (S_law_deep (n + 1)))) (fun a => .int (dpt (n + 1) a)) [some (.av (.t (.tup (.str w :: as)))), none] S S.length rfl as hl fun a ha => by
                  have := (hall a ha S.length S).2
                  unfold G_law_deep_e1
                  simp only [ev_getV, ev_kGet, ev_kGetO, ev_pure, ev_frz, ev_kFrz, ev_kFrzL, ev_kFrzD, ev_kFrzX, ev_se, ev_kSe, ev_kSeX, ev_st, ev_kStT, ev_kStB, ev_e1, ev_kE1, ev_e2, ev_kE2, ev_eL, ev_kEL, ev_nil, ev_cons, ev_kCons, ev_kCons2, ev_boolR, ev_kBoolR, ev_notB, ev_kNot, ev_andB, ev_kAndT, ev_kAndF, ev_orB, ev_kOrT, ev_kOrF, ev_band, ev_kBandT, ev_kBandF, ev_bor, ev_kBorT, ev_kBorF, ev_t1, ev_kT1n, ev_ifE, ev_kIfT, ev_kIfF, ev_callE, ev_call1, ev_call1b, ev_call2, ev_call2b, ev_call3, ev_call3b, ev_kCallT, ev_kCallO, ev_kCallX, ev_noPart, ev_intPart, ev_kPart, ev_eS, ev_kSl1, ev_kSl2, ev_kSl3, ev_lst, ev_tup, ev_tup0, ev_tup1, ev_tup2, ev_tup3, ev_tup4, ev_lst0, ev_lst1, ev_lst2, ev_lst3, ev_lst4, ev_eMt, ev_kMt, ev_seq, ev_kSeqN, ev_kSeqR, ev_kSeqX, ev_kSeqB, ev_kSeqC, ev_ret, ev_kRetT, ev_kRetO, ev_kRetX, ev_ifS, ev_kIfST, ev_kIfSF, ev_nx, ev_set, ev_kSetT, ev_own, ev_kOwn, ev_box, ev_kBox, ev_drop, ev_kDrop, ev_setIx, ev_kSetIx1, ev_kSetIx2, ev_kSetIx3, ev_kSetIx4, ev_par, ev_kPar, ev_asg, ev_kAsg, ev_for, ev_kFor, ev_it, ev_kItT, ev_kItL, ev_kItS, ev_rng1, ev_kRng1, ev_lc, List.getElem?_cons_zero, List.getElem?_cons_succ, List.set_cons_zero, List.set_cons_succ, slots, List.map_cons, List.map_nil, List.length_cons, List.length_nil, List.replicate_succ, List.replicate_zero, List.cons_append, List.nil_append, List.append_nil, Nat.reduceSub, Nat.reduceAdd, Nat.zero_add, Nat.sub_self, Nat.sub_zero, Nat.reduceLeDiff, okD, okD?, add_r, lt_r, ge_r, gt_r, le_r, sub_r, len_l, len_t, neg_r, Bool.not_true, Bool.not_false, this]
                obtain ⟨g, hg⟩ : ∃ g, greatest (as.map (dpt (n + 1))) = some g := by
                  cases as with
                  | nil =>
                    exfalso
                    have hE : w = wE := by
                      unfold ar at har
                      by_cases z1 : w = wE
                      · exact z1
                      rw [if_neg z1] at har
                      by_cases z2 : w = wB
                      · rw [if_pos z2] at har; cases har
                      rw [if_neg z2] at har
                      by_cases z3 : w = wT
                      · rw [if_pos z3] at har; cases har
                      rw [if_neg z3] at har
                      by_cases z4 : w = wO
                      · rw [if_pos z4] at har; cases har
                      rw [if_neg z4] at har
                      by_cases z5 : w = wA
                      · rw [if_pos z5] at har; cases har
                      rw [if_neg z5] at har
                      cases har
                    exact hw (.inl hE)
                  | cons a r => exact ⟨_, rfl⟩
                rw [hg]
                rw [S_law_deep, mkT_of, G_law_deep]
                unfold G_law_deep_s1 G_law_deep_s2
                simp only [ev_getV, ev_kGet, ev_kGetO, ev_pure, ev_frz, ev_kFrz, ev_kFrzL, ev_kFrzD, ev_kFrzX, ev_se, ev_kSe, ev_kSeX, ev_st, ev_kStT, ev_kStB, ev_e1, ev_kE1, ev_e2, ev_kE2, ev_eL, ev_kEL, ev_nil, ev_cons, ev_kCons, ev_kCons2, ev_boolR, ev_kBoolR, ev_notB, ev_kNot, ev_andB, ev_kAndT, ev_kAndF, ev_orB, ev_kOrT, ev_kOrF, ev_band, ev_kBandT, ev_kBandF, ev_bor, ev_kBorT, ev_kBorF, ev_t1, ev_kT1n, ev_ifE, ev_kIfT, ev_kIfF, ev_callE, ev_call1, ev_call1b, ev_call2, ev_call2b, ev_call3, ev_call3b, ev_kCallT, ev_kCallO, ev_kCallX, ev_noPart, ev_intPart, ev_kPart, ev_eS, ev_kSl1, ev_kSl2, ev_kSl3, ev_lst, ev_tup, ev_tup0, ev_tup1, ev_tup2, ev_tup3, ev_tup4, ev_lst0, ev_lst1, ev_lst2, ev_lst3, ev_lst4, ev_eMt, ev_kMt, ev_seq, ev_kSeqN, ev_kSeqR, ev_kSeqX, ev_kSeqB, ev_kSeqC, ev_ret, ev_kRetT, ev_kRetO, ev_kRetX, ev_ifS, ev_kIfST, ev_kIfSF, ev_nx, ev_set, ev_kSetT, ev_own, ev_kOwn, ev_box, ev_kBox, ev_drop, ev_kDrop, ev_setIx, ev_kSetIx1, ev_kSetIx2, ev_kSetIx3, ev_kSetIx4, ev_par, ev_kPar, ev_asg, ev_kAsg, ev_for, ev_kFor, ev_it, ev_kItT, ev_kItL, ev_kItS, ev_rng1, ev_kRng1, ev_lc, List.getElem?_cons_zero, List.getElem?_cons_succ, List.set_cons_zero, List.set_cons_succ, slots, List.map_cons, List.map_nil, List.length_cons, List.length_nil, List.replicate_succ, List.replicate_zero, List.cons_append, List.nil_append, List.append_nil, Nat.reduceSub, Nat.reduceAdd, Nat.zero_add, Nat.sub_self, Nat.sub_zero, Nat.reduceLeDiff, okD, okD?, add_r, lt_r, ge_r, gt_r, le_r, sub_r, len_l, len_t, neg_r, Bool.not_true, Bool.not_false, ix_0, in_2, hw', sl_1, lp, max_l _ _ _ _ (ints_map (dpt (n + 1)) as) hg]
                exact ofS_tree _ _ _ _ _ rfl
        | _ => cases hf
theorem law_flaw {d : D} (h : Tre 39 d) (b : Nat) (S : List Cell) : S_law_flaw b [.t d] S = .ret (.av (.t (flw d))) S := by
  rw [S_law_flaw, mkT_of, G_law_flaw]
  have e1 := built 39 d h S.length S
  unfold flw
  cases hb : bui 40 d with
  | false =>
    rw [hb] at e1
    unfold G_law_flaw_s1
    simp only [ev_getV, ev_kGet, ev_kGetO, ev_pure, ev_frz, ev_kFrz, ev_kFrzL, ev_kFrzD, ev_kFrzX, ev_se, ev_kSe, ev_kSeX, ev_st, ev_kStT, ev_kStB, ev_e1, ev_kE1, ev_e2, ev_kE2, ev_eL, ev_kEL, ev_nil, ev_cons, ev_kCons, ev_kCons2, ev_boolR, ev_kBoolR, ev_notB, ev_kNot, ev_andB, ev_kAndT, ev_kAndF, ev_orB, ev_kOrT, ev_kOrF, ev_band, ev_kBandT, ev_kBandF, ev_bor, ev_kBorT, ev_kBorF, ev_t1, ev_kT1n, ev_ifE, ev_kIfT, ev_kIfF, ev_callE, ev_call1, ev_call1b, ev_call2, ev_call2b, ev_call3, ev_call3b, ev_kCallT, ev_kCallO, ev_kCallX, ev_noPart, ev_intPart, ev_kPart, ev_eS, ev_kSl1, ev_kSl2, ev_kSl3, ev_lst, ev_tup, ev_tup0, ev_tup1, ev_tup2, ev_tup3, ev_tup4, ev_lst0, ev_lst1, ev_lst2, ev_lst3, ev_lst4, ev_eMt, ev_kMt, ev_seq, ev_kSeqN, ev_kSeqR, ev_kSeqX, ev_kSeqB, ev_kSeqC, ev_ret, ev_kRetT, ev_kRetO, ev_kRetX, ev_ifS, ev_kIfST, ev_kIfSF, ev_nx, ev_set, ev_kSetT, ev_own, ev_kOwn, ev_box, ev_kBox, ev_drop, ev_kDrop, ev_setIx, ev_kSetIx1, ev_kSetIx2, ev_kSetIx3, ev_kSetIx4, ev_par, ev_kPar, ev_asg, ev_kAsg, ev_for, ev_kFor, ev_it, ev_kItT, ev_kItL, ev_kItS, ev_rng1, ev_kRng1, ev_lc, List.getElem?_cons_zero, List.getElem?_cons_succ, List.set_cons_zero, List.set_cons_succ, slots, List.map_cons, List.map_nil, List.length_cons, List.length_nil, List.replicate_succ, List.replicate_zero, List.cons_append, List.nil_append, List.append_nil, Nat.reduceSub, Nat.reduceAdd, Nat.zero_add, Nat.sub_self, Nat.sub_zero, Nat.reduceLeDiff, okD, okD?, add_r, lt_r, ge_r, gt_r, le_r, sub_r, len_l, len_t, neg_r, Bool.not_true, Bool.not_false, e1]
    rw [if_neg Bool.false_ne_true]
    exact ofS_tree _ _ _ _ _ rfl
  | true =>
    rw [hb] at e1
    obtain ⟨e2, e3⟩ := parts 39 d h hb S.length S
    rw [if_pos rfl]
    unfold G_law_flaw_s1 G_law_flaw_s2 G_law_flaw_s3
    by_cases hm : 16 < prt 40 d
    · simp only [ev_getV, ev_kGet, ev_kGetO, ev_pure, ev_frz, ev_kFrz, ev_kFrzL, ev_kFrzD, ev_kFrzX, ev_se, ev_kSe, ev_kSeX, ev_st, ev_kStT, ev_kStB, ev_e1, ev_kE1, ev_e2, ev_kE2, ev_eL, ev_kEL, ev_nil, ev_cons, ev_kCons, ev_kCons2, ev_boolR, ev_kBoolR, ev_notB, ev_kNot, ev_andB, ev_kAndT, ev_kAndF, ev_orB, ev_kOrT, ev_kOrF, ev_band, ev_kBandT, ev_kBandF, ev_bor, ev_kBorT, ev_kBorF, ev_t1, ev_kT1n, ev_ifE, ev_kIfT, ev_kIfF, ev_callE, ev_call1, ev_call1b, ev_call2, ev_call2b, ev_call3, ev_call3b, ev_kCallT, ev_kCallO, ev_kCallX, ev_noPart, ev_intPart, ev_kPart, ev_eS, ev_kSl1, ev_kSl2, ev_kSl3, ev_lst, ev_tup, ev_tup0, ev_tup1, ev_tup2, ev_tup3, ev_tup4, ev_lst0, ev_lst1, ev_lst2, ev_lst3, ev_lst4, ev_eMt, ev_kMt, ev_seq, ev_kSeqN, ev_kSeqR, ev_kSeqX, ev_kSeqB, ev_kSeqC, ev_ret, ev_kRetT, ev_kRetO, ev_kRetX, ev_ifS, ev_kIfST, ev_kIfSF, ev_nx, ev_set, ev_kSetT, ev_own, ev_kOwn, ev_box, ev_kBox, ev_drop, ev_kDrop, ev_setIx, ev_kSetIx1, ev_kSetIx2, ev_kSetIx3, ev_kSetIx4, ev_par, ev_kPar, ev_asg, ev_kAsg, ev_for, ev_kFor, ev_it, ev_kItT, ev_kItL, ev_kItS, ev_rng1, ev_kRng1, ev_lc, List.getElem?_cons_zero, List.getElem?_cons_succ, List.set_cons_zero, List.set_cons_succ, slots, List.map_cons, List.map_nil, List.length_cons, List.length_nil, List.replicate_succ, List.replicate_zero, List.cons_append, List.nil_append, List.append_nil, Nat.reduceSub, Nat.reduceAdd, Nat.zero_add, Nat.sub_self, Nat.sub_zero, Nat.reduceLeDiff, okD, okD?, add_r, lt_r, ge_r, gt_r, le_r, sub_r, len_l, len_t, neg_r, Bool.not_true, Bool.not_false, e1, e2, decide_eq_true hm]
      rw [if_pos hm]
      exact ofS_tree _ _ _ _ _ rfl
    · rw [if_neg hm]
      by_cases hd : 6 < dpt 40 d
      · simp only [ev_getV, ev_kGet, ev_kGetO, ev_pure, ev_frz, ev_kFrz, ev_kFrzL, ev_kFrzD, ev_kFrzX, ev_se, ev_kSe, ev_kSeX, ev_st, ev_kStT, ev_kStB, ev_e1, ev_kE1, ev_e2, ev_kE2, ev_eL, ev_kEL, ev_nil, ev_cons, ev_kCons, ev_kCons2, ev_boolR, ev_kBoolR, ev_notB, ev_kNot, ev_andB, ev_kAndT, ev_kAndF, ev_orB, ev_kOrT, ev_kOrF, ev_band, ev_kBandT, ev_kBandF, ev_bor, ev_kBorT, ev_kBorF, ev_t1, ev_kT1n, ev_ifE, ev_kIfT, ev_kIfF, ev_callE, ev_call1, ev_call1b, ev_call2, ev_call2b, ev_call3, ev_call3b, ev_kCallT, ev_kCallO, ev_kCallX, ev_noPart, ev_intPart, ev_kPart, ev_eS, ev_kSl1, ev_kSl2, ev_kSl3, ev_lst, ev_tup, ev_tup0, ev_tup1, ev_tup2, ev_tup3, ev_tup4, ev_lst0, ev_lst1, ev_lst2, ev_lst3, ev_lst4, ev_eMt, ev_kMt, ev_seq, ev_kSeqN, ev_kSeqR, ev_kSeqX, ev_kSeqB, ev_kSeqC, ev_ret, ev_kRetT, ev_kRetO, ev_kRetX, ev_ifS, ev_kIfST, ev_kIfSF, ev_nx, ev_set, ev_kSetT, ev_own, ev_kOwn, ev_box, ev_kBox, ev_drop, ev_kDrop, ev_setIx, ev_kSetIx1, ev_kSetIx2, ev_kSetIx3, ev_kSetIx4, ev_par, ev_kPar, ev_asg, ev_kAsg, ev_for, ev_kFor, ev_it, ev_kItT, ev_kItL, ev_kItS, ev_rng1, ev_kRng1, ev_lc, List.getElem?_cons_zero, List.getElem?_cons_succ, List.set_cons_zero, List.set_cons_succ, slots, List.map_cons, List.map_nil, List.length_cons, List.length_nil, List.replicate_succ, List.replicate_zero, List.cons_append, List.nil_append, List.append_nil, Nat.reduceSub, Nat.reduceAdd, Nat.zero_add, Nat.sub_self, Nat.sub_zero, Nat.reduceLeDiff, okD, okD?, add_r, lt_r, ge_r, gt_r, le_r, sub_r, len_l, len_t, neg_r, Bool.not_true, Bool.not_false, e1, e2, e3, decide_eq_false hm, decide_eq_true hd]
        rw [if_pos hd]
        exact ofS_tree _ _ _ _ _ rfl
      · simp only [ev_getV, ev_kGet, ev_kGetO, ev_pure, ev_frz, ev_kFrz, ev_kFrzL, ev_kFrzD, ev_kFrzX, ev_se, ev_kSe, ev_kSeX, ev_st, ev_kStT, ev_kStB, ev_e1, ev_kE1, ev_e2, ev_kE2, ev_eL, ev_kEL, ev_nil, ev_cons, ev_kCons, ev_kCons2, ev_boolR, ev_kBoolR, ev_notB, ev_kNot, ev_andB, ev_kAndT, ev_kAndF, ev_orB, ev_kOrT, ev_kOrF, ev_band, ev_kBandT, ev_kBandF, ev_bor, ev_kBorT, ev_kBorF, ev_t1, ev_kT1n, ev_ifE, ev_kIfT, ev_kIfF, ev_callE, ev_call1, ev_call1b, ev_call2, ev_call2b, ev_call3, ev_call3b, ev_kCallT, ev_kCallO, ev_kCallX, ev_noPart, ev_intPart, ev_kPart, ev_eS, ev_kSl1, ev_kSl2, ev_kSl3, ev_lst, ev_tup, ev_tup0, ev_tup1, ev_tup2, ev_tup3, ev_tup4, ev_lst0, ev_lst1, ev_lst2, ev_lst3, ev_lst4, ev_eMt, ev_kMt, ev_seq, ev_kSeqN, ev_kSeqR, ev_kSeqX, ev_kSeqB, ev_kSeqC, ev_ret, ev_kRetT, ev_kRetO, ev_kRetX, ev_ifS, ev_kIfST, ev_kIfSF, ev_nx, ev_set, ev_kSetT, ev_own, ev_kOwn, ev_box, ev_kBox, ev_drop, ev_kDrop, ev_setIx, ev_kSetIx1, ev_kSetIx2, ev_kSetIx3, ev_kSetIx4, ev_par, ev_kPar, ev_asg, ev_kAsg, ev_for, ev_kFor, ev_it, ev_kItT, ev_kItL, ev_kItS, ev_rng1, ev_kRng1, ev_lc, List.getElem?_cons_zero, List.getElem?_cons_succ, List.set_cons_zero, List.set_cons_succ, slots, List.map_cons, List.map_nil, List.length_cons, List.length_nil, List.replicate_succ, List.replicate_zero, List.cons_append, List.nil_append, List.append_nil, Nat.reduceSub, Nat.reduceAdd, Nat.zero_add, Nat.sub_self, Nat.sub_zero, Nat.reduceLeDiff, okD, okD?, add_r, lt_r, ge_r, gt_r, le_r, sub_r, len_l, len_t, neg_r, Bool.not_true, Bool.not_false, e1, e2, e3, decide_eq_false hm, decide_eq_false hd]
        rw [if_neg hd]
        exact ofS_tree _ _ _ _ _ rfl

end Lm
end part_Ld5_k22

section part_Ld6_k22
set_option Elab.async false
set_option linter.all false
set_option maxRecDepth 100000
set_option maxHeartbeats 8000000
set_option autoImplicit false
open PySem BL Lw
namespace Lm
/-! ### patterns -/
inductive Pat : Nat → D → Prop
  | str {n : Nat} {x : List Nat} : sg x = true → x.length ≤ 100 → Pat n (.str x)
  | tup {n : Nat} {w : List Nat} {as : List D} : sg w = true → w.length ≤ 100 → as.length ≤ 3 → (∀ a ∈ as, Pat n a) → Pat (n + 1) (.tup (.str w :: as))
theorem Pat.mono {n m : Nat} {d : D} (h : Pat n d) (hm : n ≤ m) : Pat m d := by
  induction h generalizing m with
  | str h1 h2 => exact .str h1 h2
  | tup h1 h2 h3 _ ih =>
    cases m with
    | zero => omega
    | succ m => exact .tup h1 h2 h3 fun x hx => ih x hx (by omega)
theorem Pat.tre {n : Nat} {d : D} (h : Pat n d) : Tre n d := by
  induction h with
  | str h1 h2 => exact .str h1 h2
  | tup h1 h2 h3 _ ih =>
    refine .tup (by simp; omega) fun x hx => ?_
    rcases List.mem_cons.mp hx with rfl | hx
    · exact .str h1 h2
    · exact ih x hx
theorem Letter.pat {n : Nat} {d : D} (h : Letter d) : Pat n d := by
  obtain ⟨c, h1, h2, rfl⟩ := h
  refine .str ?_ (by simp)
  unfold sg
  simp [Nat.blt_eq]
  omega
theorem ifS_t {T : Ex Bool} {A B : Stm} {m m1 : M} (h : T m = .ok true m1) : ifS T A B m = A m1 := by
  rw [ev_ifS, h]; rfl
theorem ifS_f {T : Ex Bool} {A B : Stm} {m m1 : M} (h : T m = .ok false m1) : ifS T A B m = B m1 := by
  rw [ev_ifS, h]; rfl
theorem lst_0 (a c : D) (m : M) : ixF (.t (.lst [a, c])) (.t (.int 0)) m = .ok (.av (.t a)) m := rfl
theorem lst_1 (a c : D) (m : M) : ixF (.t (.lst [a, c])) (.t (.int 1)) m = .ok (.av (.t c)) m := rfl
abbrev pst (i : Nat) (bs : List D) (room : Int) (x y z : Option SV) (S : List Cell) (L : Nat) : M := ⟨[some (.av (.b i)), some (.av (.t (.lst bs))), some (.av (.t (.int room))), x, y, z], S, L⟩
theorem pat_A (g : Fn) (i L : Nat) (bs : List D) (room k : Int) (ns : List Int) (p q s : Int) (S : List Cell) (hi : i < S.length) (gd : Good p q s) (h0 : 0 < bs.length) (h1 : bs.length ≤ 100) (hb : ∀ d ∈ bs, Letter d) (hc : room < 2 ∨ k = 0) :
    ∃ d p' q' s', Good p' q' s' ∧ Pat 1 d ∧ G_law_pattern_s2 g (pst i bs room (some (.av (.t (.int k)))) none none (S.set i (draw (intsD ns) p q s)) L) = .ret (.av (.t d)) (pst i bs room (some (.av (.t (.int k)))) none none (S.set i (draw (intsD ns) p' q' s')) L) := by
  obtain ⟨x, hx, p1, q1, s1, g1, e1⟩ := law_any L i ns p q s S hi gd bs h0 (by omega)
  obtain ⟨r, p2, q2, s2, hr0, hr1, g2, e2⟩ := pull L i 7 ns p1 q1 s1 S hi g1 (by decide) (by decide)
  have hT : ∀ m : M, m.σ[2]? = some (some (.av (.t (.int room)))) → m.σ[3]? = some (some (.av (.t (.int k)))) → orB (boolR (BL.e2 (d2 ltD) (getV 2) (pureE (.int 2)))) (boolR (BL.e2 (eqF false) (getV 3) (pureE (.int 0)))) m = .ok true m := by
    intro m q2 q3
    by_cases hr : room < 2
    · simp only [ev_getV, ev_kGet, ev_kGetO, ev_pure, ev_frz, ev_kFrz, ev_kFrzL, ev_kFrzD, ev_kFrzX, ev_se, ev_kSe, ev_kSeX, ev_st, ev_kStT, ev_kStB, ev_e1, ev_kE1, ev_e2, ev_kE2, ev_eL, ev_kEL, ev_nil, ev_cons, ev_kCons, ev_kCons2, ev_boolR, ev_kBoolR, ev_notB, ev_kNot, ev_andB, ev_kAndT, ev_kAndF, ev_orB, ev_kOrT, ev_kOrF, ev_band, ev_kBandT, ev_kBandF, ev_bor, ev_kBorT, ev_kBorF, ev_t1, ev_kT1n, ev_ifE, ev_kIfT, ev_kIfF, ev_callE, ev_call1, ev_call1b, ev_call2, ev_call2b, ev_call3, ev_call3b, ev_kCallT, ev_kCallO, ev_kCallX, ev_noPart, ev_intPart, ev_kPart, ev_eS, ev_kSl1, ev_kSl2, ev_kSl3, ev_lst, ev_tup, ev_tup0, ev_tup1, ev_tup2, ev_tup3, ev_tup4, ev_lst0, ev_lst1, ev_lst2, ev_lst3, ev_lst4, ev_eMt, ev_kMt, ev_seq, ev_kSeqN, ev_kSeqR, ev_kSeqX, ev_kSeqB, ev_kSeqC, ev_ret, ev_kRetT, ev_kRetO, ev_kRetX, ev_ifS, ev_kIfST, ev_kIfSF, ev_nx, ev_set, ev_kSetT, ev_own, ev_kOwn, ev_box, ev_kBox, ev_drop, ev_kDrop, ev_setIx, ev_kSetIx1, ev_kSetIx2, ev_kSetIx3, ev_kSetIx4, ev_par, ev_kPar, ev_asg, ev_kAsg, ev_for, ev_kFor, ev_it, ev_kItT, ev_kItL, ev_kItS, ev_rng1, ev_kRng1, ev_lc, List.getElem?_cons_zero, List.getElem?_cons_succ, List.set_cons_zero, List.set_cons_succ, slots, List.map_cons, List.map_nil, List.length_cons, List.length_nil, List.replicate_succ, List.replicate_zero, List.cons_append, List.nil_append, List.append_nil, Nat.reduceSub, Nat.reduceAdd, Nat.zero_add, Nat.sub_self, Nat.sub_zero, Nat.reduceLeDiff, okD, okD?, add_r, lt_r, ge_r, gt_r, le_r, sub_r, len_l, len_t, neg_r, Bool.not_true, Bool.not_false, q2, q3, decide_eq_true hr]
    · have hk : k = 0 := hc.resolve_left hr
      simp only [ev_getV, ev_kGet, ev_kGetO, ev_pure, ev_frz, ev_kFrz, ev_kFrzL, ev_kFrzD, ev_kFrzX, ev_se, ev_kSe, ev_kSeX, ev_st, ev_kStT, ev_kStB, ev_e1, ev_kE1, ev_e2, ev_kE2, ev_eL, ev_kEL, ev_nil, ev_cons, ev_kCons, ev_kCons2, ev_boolR, ev_kBoolR, ev_notB, ev_kNot, ev_andB, ev_kAndT, ev_kAndF, ev_orB, ev_kOrT, ev_kOrF, ev_band, ev_kBandT, ev_kBandF, ev_bor, ev_kBorT, ev_kBorF, ev_t1, ev_kT1n, ev_ifE, ev_kIfT, ev_kIfF, ev_callE, ev_call1, ev_call1b, ev_call2, ev_call2b, ev_call3, ev_call3b, ev_kCallT, ev_kCallO, ev_kCallX, ev_noPart, ev_intPart, ev_kPart, ev_eS, ev_kSl1, ev_kSl2, ev_kSl3, ev_lst, ev_tup, ev_tup0, ev_tup1, ev_tup2, ev_tup3, ev_tup4, ev_lst0, ev_lst1, ev_lst2, ev_lst3, ev_lst4, ev_eMt, ev_kMt, ev_seq, ev_kSeqN, ev_kSeqR, ev_kSeqX, ev_kSeqB, ev_kSeqC, ev_ret, ev_kRetT, ev_kRetO, ev_kRetX, ev_ifS, ev_kIfST, ev_kIfSF, ev_nx, ev_set, ev_kSetT, ev_own, ev_kOwn, ev_box, ev_kBox, ev_drop, ev_kDrop, ev_setIx, ev_kSetIx1, ev_kSetIx2, ev_kSetIx3, ev_kSetIx4, ev_par, ev_kPar, ev_asg, ev_kAsg, ev_for, ev_kFor, ev_it, ev_kItT, ev_kItL, ev_kItS, ev_rng1, ev_kRng1, ev_lc, List.getElem?_cons_zero, List.getElem?_cons_succ, List.set_cons_zero, List.set_cons_succ, slots, List.map_cons, List.map_nil, List.length_cons, List.length_nil, List.replicate_succ, List.replicate_zero, List.cons_append, List.nil_append, List.append_nil, Nat.reduceSub, Nat.reduceAdd, Nat.zero_add, Nat.sub_self, Nat.sub_zero, Nat.reduceLeDiff, okD, okD?, add_r, lt_r, ge_r, gt_r, le_r, sub_r, len_l, len_t, neg_r, Bool.not_true, Bool.not_false, q2, q3, decide_eq_false hr, eq_i, decide_eq_true hk]
  by_cases hz : r = 0
  · refine ⟨.tup [.str wE], p2, q2, s2, g2, .tup rfl (by decide) (by decide) (fun a ha => by cases ha), ?_⟩
    unfold G_law_pattern_s2 pst
    rw [ifS_t (hT _ rfl rfl)]
    simp only [ev_getV, ev_kGet, ev_kGetO, ev_pure, ev_frz, ev_kFrz, ev_kFrzL, ev_kFrzD, ev_kFrzX, ev_se, ev_kSe, ev_kSeX, ev_st, ev_kStT, ev_kStB, ev_e1, ev_kE1, ev_e2, ev_kE2, ev_eL, ev_kEL, ev_nil, ev_cons, ev_kCons, ev_kCons2, ev_boolR, ev_kBoolR, ev_notB, ev_kNot, ev_andB, ev_kAndT, ev_kAndF, ev_orB, ev_kOrT, ev_kOrF, ev_band, ev_kBandT, ev_kBandF, ev_bor, ev_kBorT, ev_kBorF, ev_t1, ev_kT1n, ev_ifE, ev_kIfT, ev_kIfF, ev_callE, ev_call1, ev_call1b, ev_call2, ev_call2b, ev_call3, ev_call3b, ev_kCallT, ev_kCallO, ev_kCallX, ev_noPart, ev_intPart, ev_kPart, ev_eS, ev_kSl1, ev_kSl2, ev_kSl3, ev_lst, ev_tup, ev_tup0, ev_tup1, ev_tup2, ev_tup3, ev_tup4, ev_lst0, ev_lst1, ev_lst2, ev_lst3, ev_lst4, ev_eMt, ev_kMt, ev_seq, ev_kSeqN, ev_kSeqR, ev_kSeqX, ev_kSeqB, ev_kSeqC, ev_ret, ev_kRetT, ev_kRetO, ev_kRetX, ev_ifS, ev_kIfST, ev_kIfSF, ev_nx, ev_set, ev_kSetT, ev_own, ev_kOwn, ev_box, ev_kBox, ev_drop, ev_kDrop, ev_setIx, ev_kSetIx1, ev_kSetIx2, ev_kSetIx3, ev_kSetIx4, ev_par, ev_kPar, ev_asg, ev_kAsg, ev_for, ev_kFor, ev_it, ev_kItT, ev_kItL, ev_kItS, ev_rng1, ev_kRng1, ev_lc, List.getElem?_cons_zero, List.getElem?_cons_succ, List.set_cons_zero, List.set_cons_succ, slots, List.map_cons, List.map_nil, List.length_cons, List.length_nil, List.replicate_succ, List.replicate_zero, List.cons_append, List.nil_append, List.append_nil, Nat.reduceSub, Nat.reduceAdd, Nat.zero_add, Nat.sub_self, Nat.sub_zero, Nat.reduceLeDiff, okD, okD?, add_r, lt_r, ge_r, gt_r, le_r, sub_r, len_l, len_t, neg_r, Bool.not_true, Bool.not_false, e1, e2, eq_i, decide_eq_true hz, int_b, b2i, if_true, lst_1]
    rfl
  · refine ⟨.tup [.str wB, x], p2, q2, s2, g2, .tup rfl (by decide) (by simp) (fun a ha => by rw [List.mem_singleton.mp ha]; exact (hb x hx).pat), ?_⟩
    unfold G_law_pattern_s2 pst
    rw [ifS_t (hT _ rfl rfl)]
    simp only [ev_getV, ev_kGet, ev_kGetO, ev_pure, ev_frz, ev_kFrz, ev_kFrzL, ev_kFrzD, ev_kFrzX, ev_se, ev_kSe, ev_kSeX, ev_st, ev_kStT, ev_kStB, ev_e1, ev_kE1, ev_e2, ev_kE2, ev_eL, ev_kEL, ev_nil, ev_cons, ev_kCons, ev_kCons2, ev_boolR, ev_kBoolR, ev_notB, ev_kNot, ev_andB, ev_kAndT, ev_kAndF, ev_orB, ev_kOrT, ev_kOrF, ev_band, ev_kBandT, ev_kBandF, ev_bor, ev_kBorT, ev_kBorF, ev_t1, ev_kT1n, ev_ifE, ev_kIfT, ev_kIfF, ev_callE, ev_call1, ev_call1b, ev_call2, ev_call2b, ev_call3, ev_call3b, ev_kCallT, ev_kCallO, ev_kCallX, ev_noPart, ev_intPart, ev_kPart, ev_eS, ev_kSl1, ev_kSl2, ev_kSl3, ev_lst, ev_tup, ev_tup0, ev_tup1, ev_tup2, ev_tup3, ev_tup4, ev_lst0, ev_lst1, ev_lst2, ev_lst3, ev_lst4, ev_eMt, ev_kMt, ev_seq, ev_kSeqN, ev_kSeqR, ev_kSeqX, ev_kSeqB, ev_kSeqC, ev_ret, ev_kRetT, ev_kRetO, ev_kRetX, ev_ifS, ev_kIfST, ev_kIfSF, ev_nx, ev_set, ev_kSetT, ev_own, ev_kOwn, ev_box, ev_kBox, ev_drop, ev_kDrop, ev_setIx, ev_kSetIx1, ev_kSetIx2, ev_kSetIx3, ev_kSetIx4, ev_par, ev_kPar, ev_asg, ev_kAsg, ev_for, ev_kFor, ev_it, ev_kItT, ev_kItL, ev_kItS, ev_rng1, ev_kRng1, ev_lc, List.getElem?_cons_zero, List.getElem?_cons_succ, List.set_cons_zero, List.set_cons_succ, slots, List.map_cons, List.map_nil, List.length_cons, List.length_nil, List.replicate_succ, List.replicate_zero, List.cons_append, List.nil_append, List.append_nil, Nat.reduceSub, Nat.reduceAdd, Nat.zero_add, Nat.sub_self, Nat.sub_zero, Nat.reduceLeDiff, okD, okD?, add_r, lt_r, ge_r, gt_r, le_r, sub_r, len_l, len_t, neg_r, Bool.not_true, Bool.not_false, e1, e2, eq_i, decide_eq_false hz, int_b, b2i, Bool.false_eq_true, if_false, lst_0]
    rfl
theorem pattern (i : Nat) (bs : List D) (ns : List Int) (h0 : 0 < bs.length) (h1 : bs.length ≤ 100) (hb : ∀ d ∈ bs, Letter d) : ∀ (n : Nat) (room : Int), 1 ≤ room → room ≤ n + 1 → room ≤ 1000 → ∀ (b : Nat) (p q s : Int) (S : List Cell), i < S.length → Good p q s →
    ∃ d p' q' s', Good p' q' s' ∧ Pat room.toNat d ∧ S_law_pattern (n + 1) b [.b i, .t (.lst bs), .t (.int room)] (S.set i (draw (intsD ns) p q s)) = .ret (.av (.t d)) (S.set i (draw (intsD ns) p' q' s')) := by
  intro n
  induction n with
  | zero =>
    intro room hr1 hr2 hr9 b p q s S hi g
    rw [S_law_pattern, mkT_of, G_law_pattern]
    generalize (S.set i (draw (intsD ns) p q s)).length = L
    obtain ⟨k, p1, q1, s1, hk0, hk1, g1, e1⟩ := pull L i 9 ns p q s S hi g (by decide) (by decide)
    obtain ⟨d, p2, q2, s2, g2, hd, e2⟩ := pat_A (S_law_pattern 0) i L bs room k ns p1 q1 s1 S hi g1 h0 h1 hb (.inl (by omega))
    refine ⟨d, p2, q2, s2, g2, hd.mono (by omega), ?_⟩
    have es : G_law_pattern_s1 (S_law_pattern 0) ⟨slots 6 [.b i, .t (.lst bs), .t (.int room)], S.set i (draw (intsD ns) p q s), L⟩ = .nx (pst i bs room (some (.av (.t (.int k)))) none none (S.set i (draw (intsD ns) p1 q1 s1)) L) := by
      unfold G_law_pattern_s1 pst
      simp only [ev_getV, ev_kGet, ev_kGetO, ev_pure, ev_frz, ev_kFrz, ev_kFrzL, ev_kFrzD, ev_kFrzX, ev_se, ev_kSe, ev_kSeX, ev_st, ev_kStT, ev_kStB, ev_e1, ev_kE1, ev_e2, ev_kE2, ev_eL, ev_kEL, ev_nil, ev_cons, ev_kCons, ev_kCons2, ev_boolR, ev_kBoolR, ev_notB, ev_kNot, ev_andB, ev_kAndT, ev_kAndF, ev_orB, ev_kOrT, ev_kOrF, ev_band, ev_kBandT, ev_kBandF, ev_bor, ev_kBorT, ev_kBorF, ev_t1, ev_kT1n, ev_ifE, ev_kIfT, ev_kIfF, ev_callE, ev_call1, ev_call1b, ev_call2, ev_call2b, ev_call3, ev_call3b, ev_kCallT, ev_kCallO, ev_kCallX, ev_noPart, ev_intPart, ev_kPart, ev_eS, ev_kSl1, ev_kSl2, ev_kSl3, ev_lst, ev_tup, ev_tup0, ev_tup1, ev_tup2, ev_tup3, ev_tup4, ev_lst0, ev_lst1, ev_lst2, ev_lst3, ev_lst4, ev_eMt, ev_kMt, ev_seq, ev_kSeqN, ev_kSeqR, ev_kSeqX, ev_kSeqB, ev_kSeqC, ev_ret, ev_kRetT, ev_kRetO, ev_kRetX, ev_ifS, ev_kIfST, ev_kIfSF, ev_nx, ev_set, ev_kSetT, ev_own, ev_kOwn, ev_box, ev_kBox, ev_drop, ev_kDrop, ev_setIx, ev_kSetIx1, ev_kSetIx2, ev_kSetIx3, ev_kSetIx4, ev_par, ev_kPar, ev_asg, ev_kAsg, ev_for, ev_kFor, ev_it, ev_kItT, ev_kItL, ev_kItS, ev_rng1, ev_kRng1, ev_lc, List.getElem?_cons_zero, List.getElem?_cons_succ, List.set_cons_zero, List.set_cons_succ, slots, List.map_cons, List.map_nil, List.length_cons, List.length_nil, List.replicate_succ, List.replicate_zero, List.cons_append, List.nil_append, List.append_nil, Nat.reduceSub, Nat.reduceAdd, Nat.zero_add, Nat.sub_self, Nat.sub_zero, Nat.reduceLeDiff, okD, okD?, add_r, lt_r, ge_r, gt_r, le_r, sub_r, len_l, len_t, neg_r, Bool.not_true, Bool.not_false, e1]
    rw [ev_seq, es, ev_kSeqN, ev_seq, e2, ev_kSeqR]
    exact ofS_treeS _ _ _ _ _ _ _
  | succ n ih =>
    intro room hr1 hr2 hr9 b p q s S hi g
    rw [S_law_pattern, mkT_of, G_law_pattern]
    generalize (S.set i (draw (intsD ns) p q s)).length = L
    obtain ⟨k, p1, q1, s1, hk0, hk1, g1, e1⟩ := pull L i 9 ns p q s S hi g (by decide) (by decide)
    have es : G_law_pattern_s1 (S_law_pattern (n + 1)) ⟨slots 6 [.b i, .t (.lst bs), .t (.int room)], S.set i (draw (intsD ns) p q s), L⟩ = .nx (pst i bs room (some (.av (.t (.int k)))) none none (S.set i (draw (intsD ns) p1 q1 s1)) L) := by
      unfold G_law_pattern_s1 pst
      simp only [ev_getV, ev_kGet, ev_kGetO, ev_pure, ev_frz, ev_kFrz, ev_kFrzL, ev_kFrzD, ev_kFrzX, ev_se, ev_kSe, ev_kSeX, ev_st, ev_kStT, ev_kStB, ev_e1, ev_kE1, ev_e2, ev_kE2, ev_eL, ev_kEL, ev_nil, ev_cons, ev_kCons, ev_kCons2, ev_boolR, ev_kBoolR, ev_notB, ev_kNot, ev_andB, ev_kAndT, ev_kAndF, ev_orB, ev_kOrT, ev_kOrF, ev_band, ev_kBandT, ev_kBandF, ev_bor, ev_kBorT, ev_kBorF, ev_t1, ev_kT1n, ev_ifE, ev_kIfT, ev_kIfF, ev_callE, ev_call1, ev_call1b, ev_call2, ev_call2b, ev_call3, ev_call3b, ev_kCallT, ev_kCallO, ev_kCallX, ev_noPart, ev_intPart, ev_kPart, ev_eS, ev_kSl1, ev_kSl2, ev_kSl3, ev_lst, ev_tup, ev_tup0, ev_tup1, ev_tup2, ev_tup3, ev_tup4, ev_lst0, ev_lst1, ev_lst2, ev_lst3, ev_lst4, ev_eMt, ev_kMt, ev_seq, ev_kSeqN, ev_kSeqR, ev_kSeqX, ev_kSeqB, ev_kSeqC, ev_ret, ev_kRetT, ev_kRetO, ev_kRetX, ev_ifS, ev_kIfST, ev_kIfSF, ev_nx, ev_set, ev_kSetT, ev_own, ev_kOwn, ev_box, ev_kBox, ev_drop, ev_kDrop, ev_setIx, ev_kSetIx1, ev_kSetIx2, ev_kSetIx3, ev_kSetIx4, ev_par, ev_kPar, ev_asg, ev_kAsg, ev_for, ev_kFor, ev_it, ev_kItT, ev_kItL, ev_kItS, ev_rng1, ev_kRng1, ev_lc, List.getElem?_cons_zero, List.getElem?_cons_succ, List.set_cons_zero, List.set_cons_succ, slots, List.map_cons, List.map_nil, List.length_cons, List.length_nil, List.replicate_succ, List.replicate_zero, List.cons_append, List.nil_append, List.append_nil, Nat.reduceSub, Nat.reduceAdd, Nat.zero_add, Nat.sub_self, Nat.sub_zero, Nat.reduceLeDiff, okD, okD?, add_r, lt_r, ge_r, gt_r, le_r, sub_r, len_l, len_t, neg_r, Bool.not_true, Bool.not_false, e1]
    rw [ev_seq, es, ev_kSeqN, ev_seq]
    by_cases hA : room < 2 ∨ k = 0
    · obtain ⟨d, p2, q2, s2, g2, hd, e2⟩ := pat_A (S_law_pattern (n + 1)) i L bs room k ns p1 q1 s1 S hi g1 h0 h1 hb hA
      refine ⟨d, p2, q2, s2, g2, hd.mono (by omega), ?_⟩
      rw [e2, ev_kSeqR]
      exact ofS_treeS _ _ _ _ _ _ _
    · have hr : ¬ room < 2 := fun h => hA (.inl h)
      have hk : ¬ k = 0 := fun h => hA (.inr h)
      have e2 : G_law_pattern_s2 (S_law_pattern (n + 1)) (pst i bs room (some (.av (.t (.int k)))) none none (S.set i (draw (intsD ns) p1 q1 s1)) L) = .nx (pst i bs room (some (.av (.t (.int k)))) none none (S.set i (draw (intsD ns) p1 q1 s1)) L) := by
        unfold G_law_pattern_s2 pst
        simp only [ev_getV, ev_kGet, ev_kGetO, ev_pure, ev_frz, ev_kFrz, ev_kFrzL, ev_kFrzD, ev_kFrzX, ev_se, ev_kSe, ev_kSeX, ev_st, ev_kStT, ev_kStB, ev_e1, ev_kE1, ev_e2, ev_kE2, ev_eL, ev_kEL, ev_nil, ev_cons, ev_kCons, ev_kCons2, ev_boolR, ev_kBoolR, ev_notB, ev_kNot, ev_andB, ev_kAndT, ev_kAndF, ev_orB, ev_kOrT, ev_kOrF, ev_band, ev_kBandT, ev_kBandF, ev_bor, ev_kBorT, ev_kBorF, ev_t1, ev_kT1n, ev_ifE, ev_kIfT, ev_kIfF, ev_callE, ev_call1, ev_call1b, ev_call2, ev_call2b, ev_call3, ev_call3b, ev_kCallT, ev_kCallO, ev_kCallX, ev_noPart, ev_intPart, ev_kPart, ev_eS, ev_kSl1, ev_kSl2, ev_kSl3, ev_lst, ev_tup, ev_tup0, ev_tup1, ev_tup2, ev_tup3, ev_tup4, ev_lst0, ev_lst1, ev_lst2, ev_lst3, ev_lst4, ev_eMt, ev_kMt, ev_seq, ev_kSeqN, ev_kSeqR, ev_kSeqX, ev_kSeqB, ev_kSeqC, ev_ret, ev_kRetT, ev_kRetO, ev_kRetX, ev_ifS, ev_kIfST, ev_kIfSF, ev_nx, ev_set, ev_kSetT, ev_own, ev_kOwn, ev_box, ev_kBox, ev_drop, ev_kDrop, ev_setIx, ev_kSetIx1, ev_kSetIx2, ev_kSetIx3, ev_kSetIx4, ev_par, ev_kPar, ev_asg, ev_kAsg, ev_for, ev_kFor, ev_it, ev_kItT, ev_kItL, ev_kItS, ev_rng1, ev_kRng1, ev_lc, List.getElem?_cons_zero, List.getElem?_cons_succ, List.set_cons_zero, List.set_cons_succ, slots, List.map_cons, List.map_nil, List.length_cons, List.length_nil, List.replicate_succ, List.replicate_zero, List.cons_append, List.nil_append, List.append_nil, Nat.reduceSub, Nat.reduceAdd, Nat.zero_add, Nat.sub_self, Nat.sub_zero, Nat.reduceLeDiff, okD, okD?, add_r, lt_r, ge_r, gt_r, le_r, sub_r, len_l, len_t, neg_r, Bool.not_true, Bool.not_false, decide_eq_false hr, eq_i, decide_eq_false hk]
      rw [e2, ev_kSeqN]
      by_cases hB : k < 4 ∨ room < 3
      · obtain ⟨d, p2, q2, s2, g2, hd, e3⟩ := ih (room - 1) (by omega) (by omega) (by omega) L p1 q1 s1 S hi g1
        refine ⟨.tup [.str wA, d], p2, q2, s2, g2, ?_, ?_⟩
        · have : room.toNat = (room - 1).toNat + 1 := by omega
          rw [this]
          exact .tup rfl (by decide) (by simp) fun a ha => by rw [List.mem_singleton.mp ha]; exact hd
        · have hT : ∀ m : M, m.σ[2]? = some (some (.av (.t (.int room)))) → m.σ[3]? = some (some (.av (.t (.int k)))) → orB (boolR (BL.e2 (d2 ltD) (getV 3) (pureE (.int 4)))) (boolR (BL.e2 (d2 ltD) (getV 2) (pureE (.int 3)))) m = .ok true m := by
            intro m q2 q3
            by_cases hk4 : k < 4
            · simp only [ev_getV, ev_kGet, ev_kGetO, ev_pure, ev_frz, ev_kFrz, ev_kFrzL, ev_kFrzD, ev_kFrzX, ev_se, ev_kSe, ev_kSeX, ev_st, ev_kStT, ev_kStB, ev_e1, ev_kE1, ev_e2, ev_kE2, ev_eL, ev_kEL, ev_nil, ev_cons, ev_kCons, ev_kCons2, ev_boolR, ev_kBoolR, ev_notB, ev_kNot, ev_andB, ev_kAndT, ev_kAndF, ev_orB, ev_kOrT, ev_kOrF, ev_band, ev_kBandT, ev_kBandF, ev_bor, ev_kBorT, ev_kBorF, ev_t1, ev_kT1n, ev_ifE, ev_kIfT, ev_kIfF, ev_callE, ev_call1, ev_call1b, ev_call2, ev_call2b, ev_call3, ev_call3b, ev_kCallT, ev_kCallO, ev_kCallX, ev_noPart, ev_intPart, ev_kPart, ev_eS, ev_kSl1, ev_kSl2, ev_kSl3, ev_lst, ev_tup, ev_tup0, ev_tup1, ev_tup2, ev_tup3, ev_tup4, ev_lst0, ev_lst1, ev_lst2, ev_lst3, ev_lst4, ev_eMt, ev_kMt, ev_seq, ev_kSeqN, ev_kSeqR, ev_kSeqX, ev_kSeqB, ev_kSeqC, ev_ret, ev_kRetT, ev_kRetO, ev_kRetX, ev_ifS, ev_kIfST, ev_kIfSF, ev_nx, ev_set, ev_kSetT, ev_own, ev_kOwn, ev_box, ev_kBox, ev_drop, ev_kDrop, ev_setIx, ev_kSetIx1, ev_kSetIx2, ev_kSetIx3, ev_kSetIx4, ev_par, ev_kPar, ev_asg, ev_kAsg, ev_for, ev_kFor, ev_it, ev_kItT, ev_kItL, ev_kItS, ev_rng1, ev_kRng1, ev_lc, List.getElem?_cons_zero, List.getElem?_cons_succ, List.set_cons_zero, List.set_cons_succ, slots, List.map_cons, List.map_nil, List.length_cons, List.length_nil, List.replicate_succ, List.replicate_zero, List.cons_append, List.nil_append, List.append_nil, Nat.reduceSub, Nat.reduceAdd, Nat.zero_add, Nat.sub_self, Nat.sub_zero, Nat.reduceLeDiff, okD, okD?, add_r, lt_r, ge_r, gt_r, le_r, sub_r, len_l, len_t, neg_r, Bool.not_true, Bool.not_false, q2, q3, decide_eq_true hk4]
            · simp only [ev_getV, ev_kGet, ev_kGetO, ev_pure, ev_frz, ev_kFrz, ev_kFrzL, ev_kFrzD, ev_kFrzX, ev_se, ev_kSe, ev_kSeX, ev_st, ev_kStT, ev_kStB, ev_e1, ev_kE1, ev_e2, ev_kE2, ev_eL, ev_kEL, ev_nil, ev_cons, ev_kCons, ev_kCons2, ev_boolR, ev_kBoolR, ev_notB, ev_kNot, ev_andB, ev_kAndT, ev_kAndF, ev_orB, ev_kOrT, ev_kOrF, ev_band, ev_kBandT, ev_kBandF, ev_bor, ev_kBorT, ev_kBorF, ev_t1, ev_kT1n, ev_ifE, ev_kIfT, ev_kIfF, ev_callE, ev_call1, ev_call1b, ev_call2, ev_call2b, ev_call3, ev_call3b, ev_kCallT, ev_kCallO, ev_kCallX, ev_noPart, ev_intPart, ev_kPart, ev_eS, ev_kSl1, ev_kSl2, ev_kSl3, ev_lst, ev_tup, ev_tup0, ev_tup1, ev_tup2, ev_tup3, ev_tup4, ev_lst0, ev_lst1, ev_lst2, ev_lst3, ev_lst4, ev_eMt, ev_kMt, ev_seq, ev_kSeqN, ev_kSeqR, ev_kSeqX, ev_kSeqB, ev_kSeqC, ev_ret, ev_kRetT, ev_kRetO, ev_kRetX, ev_ifS, ev_kIfST, ev_kIfSF, ev_nx, ev_set, ev_kSetT, ev_own, ev_kOwn, ev_box, ev_kBox, ev_drop, ev_kDrop, ev_setIx, ev_kSetIx1, ev_kSetIx2, ev_kSetIx3, ev_kSetIx4, ev_par, ev_kPar, ev_asg, ev_kAsg, ev_for, ev_kFor, ev_it, ev_kItT, ev_kItL, ev_kItS, ev_rng1, ev_kRng1, ev_lc, List.getElem?_cons_zero, List.getElem?_cons_succ, List.set_cons_zero, List.set_cons_succ, slots, List.map_cons, List.map_nil, List.length_cons, List.length_nil, List.replicate_succ, List.replicate_zero, List.cons_append, List.nil_append, List.append_nil, Nat.reduceSub, Nat.reduceAdd, Nat.zero_add, Nat.sub_self, Nat.sub_zero, Nat.reduceLeDiff, okD, okD?, add_r, lt_r, ge_r, gt_r, le_r, sub_r, len_l, len_t, neg_r, Bool.not_true, Bool.not_false, q2, q3, decide_eq_false hk4, decide_eq_true (hB.resolve_left hk4)]
          rw [ev_seq]
          unfold G_law_pattern_s3 pst
          rw [ifS_t (hT _ rfl rfl)]
          simp only [ev_getV, ev_kGet, ev_kGetO, ev_pure, ev_frz, ev_kFrz, ev_kFrzL, ev_kFrzD, ev_kFrzX, ev_se, ev_kSe, ev_kSeX, ev_st, ev_kStT, ev_kStB, ev_e1, ev_kE1, ev_e2, ev_kE2, ev_eL, ev_kEL, ev_nil, ev_cons, ev_kCons, ev_kCons2, ev_boolR, ev_kBoolR, ev_notB, ev_kNot, ev_andB, ev_kAndT, ev_kAndF, ev_orB, ev_kOrT, ev_kOrF, ev_band, ev_kBandT, ev_kBandF, ev_bor, ev_kBorT, ev_kBorF, ev_t1, ev_kT1n, ev_ifE, ev_kIfT, ev_kIfF, ev_callE, ev_call1, ev_call1b, ev_call2, ev_call2b, ev_call3, ev_call3b, ev_kCallT, ev_kCallO, ev_kCallX, ev_noPart, ev_intPart, ev_kPart, ev_eS, ev_kSl1, ev_kSl2, ev_kSl3, ev_lst, ev_tup, ev_tup0, ev_tup1, ev_tup2, ev_tup3, ev_tup4, ev_lst0, ev_lst1, ev_lst2, ev_lst3, ev_lst4, ev_eMt, ev_kMt, ev_seq, ev_kSeqN, ev_kSeqR, ev_kSeqX, ev_kSeqB, ev_kSeqC, ev_ret, ev_kRetT, ev_kRetO, ev_kRetX, ev_ifS, ev_kIfST, ev_kIfSF, ev_nx, ev_set, ev_kSetT, ev_own, ev_kOwn, ev_box, ev_kBox, ev_drop, ev_kDrop, ev_setIx, ev_kSetIx1, ev_kSetIx2, ev_kSetIx3, ev_kSetIx4, ev_par, ev_kPar, ev_asg, ev_kAsg, ev_for, ev_kFor, ev_it, ev_kItT, ev_kItL, ev_kItS, ev_rng1, ev_kRng1, ev_lc, List.getElem?_cons_zero, List.getElem?_cons_succ, List.set_cons_zero, List.set_cons_succ, slots, List.map_cons, List.map_nil, List.length_cons, List.length_nil, List.replicate_succ, List.replicate_zero, List.cons_append, List.nil_append, List.append_nil, Nat.reduceSub, Nat.reduceAdd, Nat.zero_add, Nat.sub_self, Nat.sub_zero, Nat.reduceLeDiff, okD, okD?, add_r, lt_r, ge_r, gt_r, le_r, sub_r, len_l, len_t, neg_r, Bool.not_true, Bool.not_false, e3]
          exact ofS_treeS _ _ _ _ _ _ _
      · have hk4 : ¬ k < 4 := fun h => hB (.inl h)
        have hr3 : ¬ room < 3 := fun h => hB (.inr h)
        obtain ⟨r, p2, q2, s2, hr0', hr1', g2, e3⟩ := pull L i (room - 2) ns p1 q1 s1 S hi g1 (by omega) (by omega)
        obtain ⟨d, p3, q3, s3, g3, hd, e4⟩ := ih (1 + r) (by omega) (by omega) (by omega) L p2 q2 s2 S hi g2
        obtain ⟨c, p4, q4, s4, g4, hc, e5⟩ := ih (room - 1 - (1 + r)) (by omega) (by omega) (by omega) L p3 q3 s3 S hi g3
        have hw : ∃ w : List Nat, sg w = true ∧ w.length ≤ 100 ∧ ∀ m : M, ixF (.t (.lst [.str [116, 104, 101, 110], .str [111, 114]])) (.t (.int (k % 2))) m = .ok (.av (.t (.str w))) m := by
          have : k % 2 = 0 ∨ k % 2 = 1 := by omega
          rcases this with h | h
          · rw [h]; exact ⟨_, rfl, by decide, fun m => lst_0 _ _ m⟩
          · rw [h]; exact ⟨_, rfl, by decide, fun m => lst_1 _ _ m⟩
        obtain ⟨w, w1, w2, w3⟩ := hw
        refine ⟨.tup [.str w, d, c], p4, q4, s4, g4, ?_, ?_⟩
        · have : room.toNat = (room - 1).toNat + 1 := by omega
          rw [this]
          refine .tup w1 w2 (by simp) fun a ha => ?_
          rcases List.mem_cons.mp ha with rfl | ha
          · exact hd.mono (by omega)
          · rw [List.mem_singleton.mp ha]; exact hc.mono (by omega)
        · rw [ev_seq]
          unfold G_law_pattern_s3 G_law_pattern_s4 G_law_pattern_s5 G_law_pattern_s6 pst
          simp only [ev_getV, ev_kGet, ev_kGetO, ev_pure, ev_frz, ev_kFrz, ev_kFrzL, ev_kFrzD, ev_kFrzX, ev_se, ev_kSe, ev_kSeX, ev_st, ev_kStT, ev_kStB, ev_e1, ev_kE1, ev_e2, ev_kE2, ev_eL, ev_kEL, ev_nil, ev_cons, ev_kCons, ev_kCons2, ev_boolR, ev_kBoolR, ev_notB, ev_kNot, ev_andB, ev_kAndT, ev_kAndF, ev_orB, ev_kOrT, ev_kOrF, ev_band, ev_kBandT, ev_kBandF, ev_bor, ev_kBorT, ev_kBorF, ev_t1, ev_kT1n, ev_ifE, ev_kIfT, ev_kIfF, ev_callE, ev_call1, ev_call1b, ev_call2, ev_call2b, ev_call3, ev_call3b, ev_kCallT, ev_kCallO, ev_kCallX, ev_noPart, ev_intPart, ev_kPart, ev_eS, ev_kSl1, ev_kSl2, ev_kSl3, ev_lst, ev_tup, ev_tup0, ev_tup1, ev_tup2, ev_tup3, ev_tup4, ev_lst0, ev_lst1, ev_lst2, ev_lst3, ev_lst4, ev_eMt, ev_kMt, ev_seq, ev_kSeqN, ev_kSeqR, ev_kSeqX, ev_kSeqB, ev_kSeqC, ev_ret, ev_kRetT, ev_kRetO, ev_kRetX, ev_ifS, ev_kIfST, ev_kIfSF, ev_nx, ev_set, ev_kSetT, ev_own, ev_kOwn, ev_box, ev_kBox, ev_drop, ev_kDrop, ev_setIx, ev_kSetIx1, ev_kSetIx2, ev_kSetIx3, ev_kSetIx4, ev_par, ev_kPar, ev_asg, ev_kAsg, ev_for, ev_kFor, ev_it, ev_kItT, ev_kItL, ev_kItS, ev_rng1, ev_kRng1, ev_lc, List.getElem?_cons_zero, List.getElem?_cons_succ, List.set_cons_zero, List.set_cons_succ, slots, List.map_cons, List.map_nil, List.length_cons, List.length_nil, List.replicate_succ, List.replicate_zero, List.cons_append, List.nil_append, List.append_nil, Nat.reduceSub, Nat.reduceAdd, Nat.zero_add, Nat.sub_self, Nat.sub_zero, Nat.reduceLeDiff, okD, okD?, add_r, lt_r, ge_r, gt_r, le_r, sub_r, len_l, len_t, neg_r, Bool.not_true, Bool.not_false, decide_eq_false hk4, decide_eq_false hr3, e3, e4, e5, mod_r _ 2 _ (by decide), w3]
          exact ofS_treeS _ _ _ _ _ _ _

end Lm
end part_Ld6_k22

section part_Ld7_k22
set_option Elab.async false
set_option linter.all false
set_option maxRecDepth 100000
set_option maxHeartbeats 8000000
set_option autoImplicit false
open PySem BL Lw
namespace Lm
/-! ### an odd thing put in -/
def treB : Nat → D → Bool
  | _, .str x => sg x && Nat.ble x.length 100
  | _, .int _ => true
  | n + 1, .tup xs => Nat.ble xs.length 100 && xs.all (treB n)
  | _, _ => false
theorem tre_of : ∀ (n : Nat) (d : D), treB n d = true → Tre n d
  | n, .str x, h => by
    have h' : (sg x && Nat.ble x.length 100) = true := by cases n <;> exact h
    rw [Bool.and_eq_true] at h'
    exact .str h'.1 (Nat.le_of_ble_eq_true h'.2)
  | n, .int i, h => .int
  | 0, .tup xs, h => by cases h
  | n + 1, .tup xs, h => by
    have h' : (Nat.ble xs.length 100 && xs.all (treB n)) = true := h
    rw [Bool.and_eq_true] at h'
    exact .tup (Nat.le_of_ble_eq_true h'.1) fun x hx => tre_of n x (List.all_eq_true.mp h'.2 x hx)
  | 0, .non, h => by cases h
  | n + 1, .non, h => by cases h
  | 0, .bl _, h => by cases h
  | n + 1, .bl _, h => by cases h
  | 0, .lst _, h => by cases h
  | n + 1, .lst _, h => by cases h
  | 0, .dic _, h => by cases h
  | n + 1, .dic _, h => by cases h
  | 0, .ins _ _, h => by cases h
  | n + 1, .ins _ _, h => by cases h
  | 0, .kls _, h => by cases h
  | n + 1, .kls _, h => by cases h
def oE : D := .tup [.str wE]
def odds : List D := [.tup [.str wE, .str [97]], .tup [.str wB], .tup [.str wB, .str [65]], .tup [.str wB, .str [97, 98]], .tup [.str wB, .str []], .tup [.str wT, oE], .tup [.str wO, .str [97], .str [98]], .tup [], .tup [.str [110, 111, 110, 101]], .tup [.str wA, .tup [.str wB, .str [98]], oE],
  .str [97], .str wE, .tup [.str wB, .tup [.str wB, .str [97]]], .tup [.str wA], .tup [.str [69, 109, 112, 116, 121]], .tup [.str wT, oE, oE, oE], .tup [.str wE, oE]]
theorem odd_thing (b i : Nat) (ns : List Int) (p q s : Int) (S : List Cell) (hi : i < S.length) (g : Good p q s) :
    ∃ d p' q' s', Good p' q' s' ∧ Tre 2 d ∧ S_law_odd_thing b [.b i] (S.set i (draw (intsD ns) p q s)) = .ret (.av (.t d)) (S.set i (draw (intsD ns) p' q' s')) := by
  rw [S_law_odd_thing, mkT_of, G_law_odd_thing]
  generalize (S.set i (draw (intsD ns) p q s)).length = L
  obtain ⟨r, p1, q1, s1, hr0, hr1, g1, e1⟩ := pull L i odds.length ns p q s S hi g (by decide) (by decide)
  obtain ⟨k, rfl⟩ := Int.eq_ofNat_of_zero_le hr0
  have hk : k < odds.length := by omega
  have hall : odds.all (treB 2) = true := by decide
  refine ⟨odds[k], p1, q1, s1, g1, tre_of 2 _ (List.all_eq_true.mp hall _ (List.getElem_mem hk)), ?_⟩
  have st : ∀ G : Stm, seqS G_law_odd_thing_s1 (seqS G_law_odd_thing_s2 (seqS G_law_odd_thing_s3 (seqS G_law_odd_thing_s4 (seqS G_law_odd_thing_s5 (seqS G_law_odd_thing_s6 (seqS G_law_odd_thing_s7 (seqS G_law_odd_thing_s8 (seqS G_law_odd_thing_s9 (seqS G_law_odd_thing_s10 G))))))))) ⟨slots 3 [.b i], S.set i (draw (intsD ns) p q s), L⟩ = G ⟨[some (.av (.b i)), some (.av (.t oE)), some (.own (.lst odds))], S.set i (draw (intsD ns) p q s), L⟩ := fun G => rfl
  rw [st]
  have hs : ([some (.av (.b i)), some (.av (.t oE)), some (.own (.lst odds))] : List (Option SV))[2]? = some (some (.own (.lst odds))) := rfl
  have ix : ∀ S' : List Cell, ixF (.s 2) (.t (.int k)) ⟨[some (.av (.b i)), some (.av (.t oE)), some (.own (.lst odds))], S', L⟩ = .ok (.av (.t odds[k])) ⟨[some (.av (.b i)), some (.av (.t oE)), some (.own (.lst odds))], S', L⟩ := fun S' => by
    simp only [ixF, seqOf, lstOf, cellAt, hs, Option.bind_some, cellL, atI_nat odds k hk, okD?, okD]
  unfold G_law_odd_thing_s11
  simp only [ev_getV, ev_kGet, ev_kGetO, ev_pure, ev_frz, ev_kFrz, ev_kFrzL, ev_kFrzD, ev_kFrzX, ev_se, ev_kSe, ev_kSeX, ev_st, ev_kStT, ev_kStB, ev_e1, ev_kE1, ev_e2, ev_kE2, ev_eL, ev_kEL, ev_nil, ev_cons, ev_kCons, ev_kCons2, ev_boolR, ev_kBoolR, ev_notB, ev_kNot, ev_andB, ev_kAndT, ev_kAndF, ev_orB, ev_kOrT, ev_kOrF, ev_band, ev_kBandT, ev_kBandF, ev_bor, ev_kBorT, ev_kBorF, ev_t1, ev_kT1n, ev_ifE, ev_kIfT, ev_kIfF, ev_callE, ev_call1, ev_call1b, ev_call2, ev_call2b, ev_call3, ev_call3b, ev_kCallT, ev_kCallO, ev_kCallX, ev_noPart, ev_intPart, ev_kPart, ev_eS, ev_kSl1, ev_kSl2, ev_kSl3, ev_lst, ev_tup, ev_tup0, ev_tup1, ev_tup2, ev_tup3, ev_tup4, ev_lst0, ev_lst1, ev_lst2, ev_lst3, ev_lst4, ev_eMt, ev_kMt, ev_seq, ev_kSeqN, ev_kSeqR, ev_kSeqX, ev_kSeqB, ev_kSeqC, ev_ret, ev_kRetT, ev_kRetO, ev_kRetX, ev_ifS, ev_kIfST, ev_kIfSF, ev_nx, ev_set, ev_kSetT, ev_own, ev_kOwn, ev_box, ev_kBox, ev_drop, ev_kDrop, ev_setIx, ev_kSetIx1, ev_kSetIx2, ev_kSetIx3, ev_kSetIx4, ev_par, ev_kPar, ev_asg, ev_kAsg, ev_for, ev_kFor, ev_it, ev_kItT, ev_kItL, ev_kItS, ev_rng1, ev_kRng1, ev_lc, List.getElem?_cons_zero, List.getElem?_cons_succ, List.set_cons_zero, List.set_cons_succ, slots, List.map_cons, List.map_nil, List.length_cons, List.length_nil, List.replicate_succ, List.replicate_zero, List.cons_append, List.nil_append, List.append_nil, Nat.reduceSub, Nat.reduceAdd, Nat.zero_add, Nat.sub_self, Nat.sub_zero, Nat.reduceLeDiff, okD, okD?, add_r, lt_r, ge_r, gt_r, le_r, sub_r, len_l, len_t, neg_r, Bool.not_true, Bool.not_false, len_s _ 2 odds _ _ hs, e1, ix]
  exact ofS_treeS _ _ _ _ _ _ _
theorem cut_mem {α : Type} (xs : List α) (lo hi : Option Int) : (cutL xs lo hi).length ≤ xs.length ∧ ∀ x ∈ cutL xs lo hi, x ∈ xs := by
  unfold cutL
  refine ⟨?_, fun x hx => List.mem_of_mem_drop (List.mem_of_mem_take hx)⟩
  rw [List.length_take, List.length_drop]
  omega
theorem add_t (xs ys : List D) (m : M) (h : xs.length + ys.length ≤ 100) : addF (.t (.tup xs)) (.t (.tup ys)) m = .ok (.av (.t (.tup (xs ++ ys)))) m := by
  simp only [addF, tupCat, blt_100 h, okD]
theorem put_in (odd : D) (ho : Tre 2 odd) : ∀ (n k : Nat) (d : D), Pat k d → k ≤ n → ∀ (place : Int), 0 ≤ place → ∀ (b : Nat) (S : List Cell), ∃ r, Tre (k + 2) r ∧ S_law_put_in (n + 1) b [.t d, .t (.int place), .t odd] S = .ret (.av (.t r)) S := by
  intro n
  induction n with
  | zero =>
    intro k d h hk place hp b S
    refine ⟨odd, ho.mono (by omega), ?_⟩
    rw [S_law_put_in, mkT_of, G_law_put_in]
    unfold G_law_put_in_s1
    cases h with
    | str h1 h2 =>
      by_cases h0 : place = 0
      · simp only [ev_getV, ev_kGet, ev_kGetO, ev_pure, ev_frz, ev_kFrz, ev_kFrzL, ev_kFrzD, ev_kFrzX, ev_se, ev_kSe, ev_kSeX, ev_st, ev_kStT, ev_kStB, ev_e1, ev_kE1, ev_e2, ev_kE2, ev_eL, ev_kEL, ev_nil, ev_cons, ev_kCons, ev_kCons2, ev_boolR, ev_kBoolR, ev_notB, ev_kNot, ev_andB, ev_kAndT, ev_kAndF, ev_orB, ev_kOrT, ev_kOrF, ev_band, ev_kBandT, ev_kBandF, ev_bor, ev_kBorT, ev_kBorF, ev_t1, ev_kT1n, ev_ifE, ev_kIfT, ev_kIfF, ev_callE, ev_call1, ev_call1b, ev_call2, ev_call2b, ev_call3, ev_call3b, ev_kCallT, ev_kCallO, ev_kCallX, ev_noPart, ev_intPart, ev_kPart, ev_eS, ev_kSl1, ev_kSl2, ev_kSl3, ev_lst, ev_tup, ev_tup0, ev_tup1, ev_tup2, ev_tup3, ev_tup4, ev_lst0, ev_lst1, ev_lst2, ev_lst3, ev_lst4, ev_eMt, ev_kMt, ev_seq, ev_kSeqN, ev_kSeqR, ev_kSeqX, ev_kSeqB, ev_kSeqC, ev_ret, ev_kRetT, ev_kRetO, ev_kRetX, ev_ifS, ev_kIfST, ev_kIfSF, ev_nx, ev_set, ev_kSetT, ev_own, ev_kOwn, ev_box, ev_kBox, ev_drop, ev_kDrop, ev_setIx, ev_kSetIx1, ev_kSetIx2, ev_kSetIx3, ev_kSetIx4, ev_par, ev_kPar, ev_asg, ev_kAsg, ev_for, ev_kFor, ev_it, ev_kItT, ev_kItL, ev_kItS, ev_rng1, ev_kRng1, ev_lc, List.getElem?_cons_zero, List.getElem?_cons_succ, List.set_cons_zero, List.set_cons_succ, slots, List.map_cons, List.map_nil, List.length_cons, List.length_nil, List.replicate_succ, List.replicate_zero, List.cons_append, List.nil_append, List.append_nil, Nat.reduceSub, Nat.reduceAdd, Nat.zero_add, Nat.sub_self, Nat.sub_zero, Nat.reduceLeDiff, okD, okD?, add_r, lt_r, ge_r, gt_r, le_r, sub_r, len_l, len_t, neg_r, Bool.not_true, Bool.not_false, eq_i, decide_eq_true h0]
        exact ofS_tree _ _ _ _ _ rfl
      · simp only [ev_getV, ev_kGet, ev_kGetO, ev_pure, ev_frz, ev_kFrz, ev_kFrzL, ev_kFrzD, ev_kFrzX, ev_se, ev_kSe, ev_kSeX, ev_st, ev_kStT, ev_kStB, ev_e1, ev_kE1, ev_e2, ev_kE2, ev_eL, ev_kEL, ev_nil, ev_cons, ev_kCons, ev_kCons2, ev_boolR, ev_kBoolR, ev_notB, ev_kNot, ev_andB, ev_kAndT, ev_kAndF, ev_orB, ev_kOrT, ev_kOrF, ev_band, ev_kBandT, ev_kBandF, ev_bor, ev_kBorT, ev_kBorF, ev_t1, ev_kT1n, ev_ifE, ev_kIfT, ev_kIfF, ev_callE, ev_call1, ev_call1b, ev_call2, ev_call2b, ev_call3, ev_call3b, ev_kCallT, ev_kCallO, ev_kCallX, ev_noPart, ev_intPart, ev_kPart, ev_eS, ev_kSl1, ev_kSl2, ev_kSl3, ev_lst, ev_tup, ev_tup0, ev_tup1, ev_tup2, ev_tup3, ev_tup4, ev_lst0, ev_lst1, ev_lst2, ev_lst3, ev_lst4, ev_eMt, ev_kMt, ev_seq, ev_kSeqN, ev_kSeqR, ev_kSeqX, ev_kSeqB, ev_kSeqC, ev_ret, ev_kRetT, ev_kRetO, ev_kRetX, ev_ifS, ev_kIfST, ev_kIfSF, ev_nx, ev_set, ev_kSetT, ev_own, ev_kOwn, ev_box, ev_kBox, ev_drop, ev_kDrop, ev_setIx, ev_kSetIx1, ev_kSetIx2, ev_kSetIx3, ev_kSetIx4, ev_par, ev_kPar, ev_asg, ev_kAsg, ev_for, ev_kFor, ev_it, ev_kItT, ev_kItL, ev_kItS, ev_rng1, ev_kRng1, ev_lc, List.getElem?_cons_zero, List.getElem?_cons_succ, List.set_cons_zero, List.set_cons_succ, slots, List.map_cons, List.map_nil, List.length_cons, List.length_nil, List.replicate_succ, List.replicate_zero, List.cons_append, List.nil_append, List.append_nil, Nat.reduceSub, Nat.reduceAdd, Nat.zero_add, Nat.sub_self, Nat.sub_zero, Nat.reduceLeDiff, okD, okD?, add_r, lt_r, ge_r, gt_r, le_r, sub_r, len_l, len_t, neg_r, Bool.not_true, Bool.not_false, eq_i, decide_eq_false h0, isi_s, Ty.sub]
        exact ofS_tree _ _ _ _ _ rfl
    | tup _ _ _ _ => omega
  | succ n ih =>
    intro k d h hk place hp b S
    rw [S_law_put_in, mkT_of, G_law_put_in]
    by_cases h0 : place = 0
    · refine ⟨odd, ho.mono (by omega), ?_⟩
      unfold G_law_put_in_s1
      simp only [ev_getV, ev_kGet, ev_kGetO, ev_pure, ev_frz, ev_kFrz, ev_kFrzL, ev_kFrzD, ev_kFrzX, ev_se, ev_kSe, ev_kSeX, ev_st, ev_kStT, ev_kStB, ev_e1, ev_kE1, ev_e2, ev_kE2, ev_eL, ev_kEL, ev_nil, ev_cons, ev_kCons, ev_kCons2, ev_boolR, ev_kBoolR, ev_notB, ev_kNot, ev_andB, ev_kAndT, ev_kAndF, ev_orB, ev_kOrT, ev_kOrF, ev_band, ev_kBandT, ev_kBandF, ev_bor, ev_kBorT, ev_kBorF, ev_t1, ev_kT1n, ev_ifE, ev_kIfT, ev_kIfF, ev_callE, ev_call1, ev_call1b, ev_call2, ev_call2b, ev_call3, ev_call3b, ev_kCallT, ev_kCallO, ev_kCallX, ev_noPart, ev_intPart, ev_kPart, ev_eS, ev_kSl1, ev_kSl2, ev_kSl3, ev_lst, ev_tup, ev_tup0, ev_tup1, ev_tup2, ev_tup3, ev_tup4, ev_lst0, ev_lst1, ev_lst2, ev_lst3, ev_lst4, ev_eMt, ev_kMt, ev_seq, ev_kSeqN, ev_kSeqR, ev_kSeqX, ev_kSeqB, ev_kSeqC, ev_ret, ev_kRetT, ev_kRetO, ev_kRetX, ev_ifS, ev_kIfST, ev_kIfSF, ev_nx, ev_set, ev_kSetT, ev_own, ev_kOwn, ev_box, ev_kBox, ev_drop, ev_kDrop, ev_setIx, ev_kSetIx1, ev_kSetIx2, ev_kSetIx3, ev_kSetIx4, ev_par, ev_kPar, ev_asg, ev_kAsg, ev_for, ev_kFor, ev_it, ev_kItT, ev_kItL, ev_kItS, ev_rng1, ev_kRng1, ev_lc, List.getElem?_cons_zero, List.getElem?_cons_succ, List.set_cons_zero, List.set_cons_succ, slots, List.map_cons, List.map_nil, List.length_cons, List.length_nil, List.replicate_succ, List.replicate_zero, List.cons_append, List.nil_append, List.append_nil, Nat.reduceSub, Nat.reduceAdd, Nat.zero_add, Nat.sub_self, Nat.sub_zero, Nat.reduceLeDiff, okD, okD?, add_r, lt_r, ge_r, gt_r, le_r, sub_r, len_l, len_t, neg_r, Bool.not_true, Bool.not_false, eq_i, decide_eq_true h0]
      exact ofS_tree _ _ _ _ _ rfl
    cases h with
    | str h1 h2 =>
      refine ⟨odd, ho.mono (by omega), ?_⟩
      unfold G_law_put_in_s1
      simp only [ev_getV, ev_kGet, ev_kGetO, ev_pure, ev_frz, ev_kFrz, ev_kFrzL, ev_kFrzD, ev_kFrzX, ev_se, ev_kSe, ev_kSeX, ev_st, ev_kStT, ev_kStB, ev_e1, ev_kE1, ev_e2, ev_kE2, ev_eL, ev_kEL, ev_nil, ev_cons, ev_kCons, ev_kCons2, ev_boolR, ev_kBoolR, ev_notB, ev_kNot, ev_andB, ev_kAndT, ev_kAndF, ev_orB, ev_kOrT, ev_kOrF, ev_band, ev_kBandT, ev_kBandF, ev_bor, ev_kBorT, ev_kBorF, ev_t1, ev_kT1n, ev_ifE, ev_kIfT, ev_kIfF, ev_callE, ev_call1, ev_call1b, ev_call2, ev_call2b, ev_call3, ev_call3b, ev_kCallT, ev_kCallO, ev_kCallX, ev_noPart, ev_intPart, ev_kPart, ev_eS, ev_kSl1, ev_kSl2, ev_kSl3, ev_lst, ev_tup, ev_tup0, ev_tup1, ev_tup2, ev_tup3, ev_tup4, ev_lst0, ev_lst1, ev_lst2, ev_lst3, ev_lst4, ev_eMt, ev_kMt, ev_seq, ev_kSeqN, ev_kSeqR, ev_kSeqX, ev_kSeqB, ev_kSeqC, ev_ret, ev_kRetT, ev_kRetO, ev_kRetX, ev_ifS, ev_kIfST, ev_kIfSF, ev_nx, ev_set, ev_kSetT, ev_own, ev_kOwn, ev_box, ev_kBox, ev_drop, ev_kDrop, ev_setIx, ev_kSetIx1, ev_kSetIx2, ev_kSetIx3, ev_kSetIx4, ev_par, ev_kPar, ev_asg, ev_kAsg, ev_for, ev_kFor, ev_it, ev_kItT, ev_kItL, ev_kItS, ev_rng1, ev_kRng1, ev_lc, List.getElem?_cons_zero, List.getElem?_cons_succ, List.set_cons_zero, List.set_cons_succ, slots, List.map_cons, List.map_nil, List.length_cons, List.length_nil, List.replicate_succ, List.replicate_zero, List.cons_append, List.nil_append, List.append_nil, Nat.reduceSub, Nat.reduceAdd, Nat.zero_add, Nat.sub_self, Nat.sub_zero, Nat.reduceLeDiff, okD, okD?, add_r, lt_r, ge_r, gt_r, le_r, sub_r, len_l, len_t, neg_r, Bool.not_true, Bool.not_false, eq_i, decide_eq_false h0, isi_s, Ty.sub]
      exact ofS_tree _ _ _ _ _ rfl
    | @tup k w as k1 k2 k3 k4 =>
      by_cases hl : as.length = 0
      · have hl' : ((as.length + 1 : Nat) : Int) < 2 := by omega
        refine ⟨odd, ho.mono (by omega), ?_⟩
        unfold G_law_put_in_s1
        simp only [ev_getV, ev_kGet, ev_kGetO, ev_pure, ev_frz, ev_kFrz, ev_kFrzL, ev_kFrzD, ev_kFrzX, ev_se, ev_kSe, ev_kSeX, ev_st, ev_kStT, ev_kStB, ev_e1, ev_kE1, ev_e2, ev_kE2, ev_eL, ev_kEL, ev_nil, ev_cons, ev_kCons, ev_kCons2, ev_boolR, ev_kBoolR, ev_notB, ev_kNot, ev_andB, ev_kAndT, ev_kAndF, ev_orB, ev_kOrT, ev_kOrF, ev_band, ev_kBandT, ev_kBandF, ev_bor, ev_kBorT, ev_kBorF, ev_t1, ev_kT1n, ev_ifE, ev_kIfT, ev_kIfF, ev_callE, ev_call1, ev_call1b, ev_call2, ev_call2b, ev_call3, ev_call3b, ev_kCallT, ev_kCallO, ev_kCallX, ev_noPart, ev_intPart, ev_kPart, ev_eS, ev_kSl1, ev_kSl2, ev_kSl3, ev_lst, ev_tup, ev_tup0, ev_tup1, ev_tup2, ev_tup3, ev_tup4, ev_lst0, ev_lst1, ev_lst2, ev_lst3, ev_lst4, ev_eMt, ev_kMt, ev_seq, ev_kSeqN, ev_kSeqR, ev_kSeqX, ev_kSeqB, ev_kSeqC, ev_ret, ev_kRetT, ev_kRetO, ev_kRetX, ev_ifS, ev_kIfST, ev_kIfSF, ev_nx, ev_set, ev_kSetT, ev_own, ev_kOwn, ev_box, ev_kBox, ev_drop, ev_kDrop, ev_setIx, ev_kSetIx1, ev_kSetIx2, ev_kSetIx3, ev_kSetIx4, ev_par, ev_kPar, ev_asg, ev_kAsg, ev_for, ev_kFor, ev_it, ev_kItT, ev_kItL, ev_kItS, ev_rng1, ev_kRng1, ev_lc, List.getElem?_cons_zero, List.getElem?_cons_succ, List.set_cons_zero, List.set_cons_succ, slots, List.map_cons, List.map_nil, List.length_cons, List.length_nil, List.replicate_succ, List.replicate_zero, List.cons_append, List.nil_append, List.append_nil, Nat.reduceSub, Nat.reduceAdd, Nat.zero_add, Nat.sub_self, Nat.sub_zero, Nat.reduceLeDiff, okD, okD?, add_r, lt_r, ge_r, gt_r, le_r, sub_r, len_l, len_t, neg_r, Bool.not_true, Bool.not_false, eq_i, decide_eq_false h0, isi_t, Ty.sub, decide_eq_true hl']
        exact ofS_tree _ _ _ _ _ rfl
      have hl' : ¬ ((as.length + 1 : Nat) : Int) < 2 := by omega
      by_cases hw : w = [98, 101, 97, 100]
      · refine ⟨odd, ho.mono (by omega), ?_⟩
        unfold G_law_put_in_s1
        simp only [ev_getV, ev_kGet, ev_kGetO, ev_pure, ev_frz, ev_kFrz, ev_kFrzL, ev_kFrzD, ev_kFrzX, ev_se, ev_kSe, ev_kSeX, ev_st, ev_kStT, ev_kStB, ev_e1, ev_kE1, ev_e2, ev_kE2, ev_eL, ev_kEL, ev_nil, ev_cons, ev_kCons, ev_kCons2, ev_boolR, ev_kBoolR, ev_notB, ev_kNot, ev_andB, ev_kAndT, ev_kAndF, ev_orB, ev_kOrT, ev_kOrF, ev_band, ev_kBandT, ev_kBandF, ev_bor, ev_kBorT, ev_kBorF, ev_t1, ev_kT1n, ev_ifE, ev_kIfT, ev_kIfF, ev_callE, ev_call1, ev_call1b, ev_call2, ev_call2b, ev_call3, ev_call3b, ev_kCallT, ev_kCallO, ev_kCallX, ev_noPart, ev_intPart, ev_kPart, ev_eS, ev_kSl1, ev_kSl2, ev_kSl3, ev_lst, ev_tup, ev_tup0, ev_tup1, ev_tup2, ev_tup3, ev_tup4, ev_lst0, ev_lst1, ev_lst2, ev_lst3, ev_lst4, ev_eMt, ev_kMt, ev_seq, ev_kSeqN, ev_kSeqR, ev_kSeqX, ev_kSeqB, ev_kSeqC, ev_ret, ev_kRetT, ev_kRetO, ev_kRetX, ev_ifS, ev_kIfST, ev_kIfSF, ev_nx, ev_set, ev_kSetT, ev_own, ev_kOwn, ev_box, ev_kBox, ev_drop, ev_kDrop, ev_setIx, ev_kSetIx1, ev_kSetIx2, ev_kSetIx3, ev_kSetIx4, ev_par, ev_kPar, ev_asg, ev_kAsg, ev_for, ev_kFor, ev_it, ev_kItT, ev_kItL, ev_kItS, ev_rng1, ev_kRng1, ev_lc, List.getElem?_cons_zero, List.getElem?_cons_succ, List.set_cons_zero, List.set_cons_succ, slots, List.map_cons, List.map_nil, List.length_cons, List.length_nil, List.replicate_succ, List.replicate_zero, List.cons_append, List.nil_append, List.append_nil, Nat.reduceSub, Nat.reduceAdd, Nat.zero_add, Nat.sub_self, Nat.sub_zero, Nat.reduceLeDiff, okD, okD?, add_r, lt_r, ge_r, gt_r, le_r, sub_r, len_l, len_t, neg_r, Bool.not_true, Bool.not_false, eq_i, decide_eq_false h0, isi_t, Ty.sub, decide_eq_false hl', ix_0, eq_s w [98, 101, 97, 100] _ k1 rfl, decide_eq_true hw]
        exact ofS_tree _ _ _ _ _ rfl
      have hm : 0 < ((as.length + 1 : Nat) : Int) - 1 := by omega
      have hm2 : ((as.length + 1 : Nat) : Int) - 1 < 1073741824 := by omega
      have hat0 := Int.emod_nonneg (place - 1) (b := ((as.length + 1 : Nat) : Int) - 1) (by omega)
      have hat1 := Int.emod_lt_of_pos (place - 1) hm
      obtain ⟨j, hj⟩ := Int.eq_ofNat_of_zero_le hat0
      have hjl : j < as.length := by omega
      have hat : L2.atI (D.str w :: as) (1 + (place - 1) % (((as.length + 1 : Nat) : Int) - 1)) = some as[j] := by
        rw [hj, show (1 : Int) + ((j : Nat) : Int) = ((j + 1 : Nat) : Int) by omega, atI_nat (D.str w :: as) (j + 1) (by simp; omega)]
        rfl
      obtain ⟨r, hr, e1⟩ := ih k as[j] (k4 _ (List.getElem_mem hjl)) (by omega) ((place - 1) / (((as.length + 1 : Nat) : Int) - 1)) (Int.ediv_nonneg (by omega) (by omega)) S.length S
      have c1 := cut_mem (D.str w :: as) none (some (1 + (place - 1) % (((as.length + 1 : Nat) : Int) - 1)))
      have c2 := cut_mem (D.str w :: as) (some (1 + (place - 1) % (((as.length + 1 : Nat) : Int) - 1) + 1)) none
      have l1 := c1.1
      have l2 := c2.1
      rw [List.length_cons] at l1 l2
      refine ⟨.tup (cutL (D.str w :: as) none (some (1 + (place - 1) % (((as.length + 1 : Nat) : Int) - 1))) ++ [r] ++ cutL (D.str w :: as) (some (1 + (place - 1) % (((as.length + 1 : Nat) : Int) - 1) + 1)) none), ?_, ?_⟩
      · have hall : ∀ x ∈ D.str w :: as, Tre (k + 2) x := fun x hx => by
          rcases List.mem_cons.mp hx with rfl | hx
          · exact .str k1 k2
          · exact (k4 x hx).tre.mono (by omega)
        refine .tup (by simp only [List.length_append, List.length_singleton]; omega) fun x hx => ?_
        rcases List.mem_append.mp hx with hx | hx
        · rcases List.mem_append.mp hx with hx | hx
          · exact hall x (c1.2 x hx)
          · rw [List.mem_singleton.mp hx]; exact hr
        · exact hall x (c2.2 x hx)
      · unfold G_law_put_in_s1 G_law_put_in_s2 G_law_put_in_s3 G_law_put_in_s4 G_law_put_in_s5
        have a1 : ∀ m : M, addF (.t (.tup (cutL (D.str w :: as) none (some (1 + (place - 1) % (((as.length + 1 : Nat) : Int) - 1)))))) (.t (.tup [r])) m = .ok (.av (.t (.tup (cutL (D.str w :: as) none (some (1 + (place - 1) % (((as.length + 1 : Nat) : Int) - 1))) ++ [r])))) m := fun m => add_t _ _ _ (by rw [List.length_singleton]; omega)
        have a2 : ∀ m : M, addF (.t (.tup (cutL (D.str w :: as) none (some (1 + (place - 1) % (((as.length + 1 : Nat) : Int) - 1))) ++ [r]))) (.t (.tup (cutL (D.str w :: as) (some (1 + (place - 1) % (((as.length + 1 : Nat) : Int) - 1) + 1)) none))) m = .ok (.av (.t (.tup (cutL (D.str w :: as) none (some (1 + (place - 1) % (((as.length + 1 : Nat) : Int) - 1))) ++ [r] ++ cutL (D.str w :: as) (some (1 + (place - 1) % (((as.length + 1 : Nat) : Int) - 1) + 1)) none)))) m := fun m => add_t _ _ _ (by rw [List.length_append, List.length_singleton]; omega)
        simp only [ev_getV, ev_kGet, ev_kGetO, ev_pure, ev_frz, ev_kFrz, ev_kFrzL, ev_kFrzD, ev_kFrzX, ev_se, ev_kSe, ev_kSeX, ev_st, ev_kStT, ev_kStB, ev_e1, ev_kE1, ev_e2, ev_kE2, ev_eL, ev_kEL, ev_nil, ev_cons, ev_kCons, ev_kCons2, ev_boolR, ev_kBoolR, ev_notB, ev_kNot, ev_andB, ev_kAndT, ev_kAndF, ev_orB, ev_kOrT, ev_kOrF, ev_band, ev_kBandT, ev_kBandF, ev_bor, ev_kBorT, ev_kBorF, ev_t1, ev_kT1n, ev_ifE, ev_kIfT, ev_kIfF, ev_callE, ev_call1, ev_call1b, ev_call2, ev_call2b, ev_call3, ev_call3b, ev_kCallT, ev_kCallO, ev_kCallX, ev_noPart, ev_intPart, ev_kPart, ev_eS, ev_kSl1, ev_kSl2, ev_kSl3, ev_lst, ev_tup, ev_tup0, ev_tup1, ev_tup2, ev_tup3, ev_tup4, ev_lst0, ev_lst1, ev_lst2, ev_lst3, ev_lst4, ev_eMt, ev_kMt, ev_seq, ev_kSeqN, ev_kSeqR, ev_kSeqX, ev_kSeqB, ev_kSeqC, ev_ret, ev_kRetT, ev_kRetO, ev_kRetX, ev_ifS, ev_kIfST, ev_kIfSF, ev_nx, ev_set, ev_kSetT, ev_own, ev_kOwn, ev_box, ev_kBox, ev_drop, ev_kDrop, ev_setIx, ev_kSetIx1, ev_kSetIx2, ev_kSetIx3, ev_kSetIx4, ev_par, ev_kPar, ev_asg, ev_kAsg, ev_for, ev_kFor, ev_it, ev_kItT, ev_kItL, ev_kItS, ev_rng1, ev_kRng1, ev_lc, List.getElem?_cons_zero, List.getElem?_cons_succ, List.set_cons_zero, List.set_cons_succ, slots, List.map_cons, List.map_nil, List.length_cons, List.length_nil, List.replicate_succ, List.replicate_zero, List.cons_append, List.nil_append, List.append_nil, Nat.reduceSub, Nat.reduceAdd, Nat.zero_add, Nat.sub_self, Nat.sub_zero, Nat.reduceLeDiff, okD, okD?, add_r, lt_r, ge_r, gt_r, le_r, sub_r, len_l, len_t, neg_r, Bool.not_true, Bool.not_false, eq_i, decide_eq_false h0, isi_t, Ty.sub, decide_eq_false hl', ix_0, eq_s w [98, 101, 97, 100] _ k1 rfl, decide_eq_false hw, mod_r _ _ _ hm, div_r _ _ _ hm hm2, ix_t _ _ _ _ hat, e1, sl_t, a1, a2]
        exact ofS_tree _ _ _ _ _ rfl
/-! ### like -/
def Sm (d : D) : Prop := d = .non ∨ ∃ x, sg x = true ∧ x.length ≤ 100 ∧ d = .str x
theorem isN_r (d : D) (m : M) : d2 isND (.t d) (.t .non) m = .ok (.av (.t (.bl (isNonD d)))) m := rfl
theorem like_s (n b : Nat) (S : List Cell) (d : D) (h : Sm d) : S_law_like (n + 1) b [.t d, .t d] S = .ret (.av (.t (.bl true))) S := by
  rw [S_law_like, mkT_of, G_law_like]
  rcases h with rfl | ⟨x, h1, h2, rfl⟩
  · unfold G_law_like_s1
    simp only [ev_getV, ev_kGet, ev_kGetO, ev_pure, ev_frz, ev_kFrz, ev_kFrzL, ev_kFrzD, ev_kFrzX, ev_se, ev_kSe, ev_kSeX, ev_st, ev_kStT, ev_kStB, ev_e1, ev_kE1, ev_e2, ev_kE2, ev_eL, ev_kEL, ev_nil, ev_cons, ev_kCons, ev_kCons2, ev_boolR, ev_kBoolR, ev_notB, ev_kNot, ev_andB, ev_kAndT, ev_kAndF, ev_orB, ev_kOrT, ev_kOrF, ev_band, ev_kBandT, ev_kBandF, ev_bor, ev_kBorT, ev_kBorF, ev_t1, ev_kT1n, ev_ifE, ev_kIfT, ev_kIfF, ev_callE, ev_call1, ev_call1b, ev_call2, ev_call2b, ev_call3, ev_call3b, ev_kCallT, ev_kCallO, ev_kCallX, ev_noPart, ev_intPart, ev_kPart, ev_eS, ev_kSl1, ev_kSl2, ev_kSl3, ev_lst, ev_tup, ev_tup0, ev_tup1, ev_tup2, ev_tup3, ev_tup4, ev_lst0, ev_lst1, ev_lst2, ev_lst3, ev_lst4, ev_eMt, ev_kMt, ev_seq, ev_kSeqN, ev_kSeqR, ev_kSeqX, ev_kSeqB, ev_kSeqC, ev_ret, ev_kRetT, ev_kRetO, ev_kRetX, ev_ifS, ev_kIfST, ev_kIfSF, ev_nx, ev_set, ev_kSetT, ev_own, ev_kOwn, ev_box, ev_kBox, ev_drop, ev_kDrop, ev_setIx, ev_kSetIx1, ev_kSetIx2, ev_kSetIx3, ev_kSetIx4, ev_par, ev_kPar, ev_asg, ev_kAsg, ev_for, ev_kFor, ev_it, ev_kItT, ev_kItL, ev_kItS, ev_rng1, ev_kRng1, ev_lc, List.getElem?_cons_zero, List.getElem?_cons_succ, List.set_cons_zero, List.set_cons_succ, slots, List.map_cons, List.map_nil, List.length_cons, List.length_nil, List.replicate_succ, List.replicate_zero, List.cons_append, List.nil_append, List.append_nil, Nat.reduceSub, Nat.reduceAdd, Nat.zero_add, Nat.sub_self, Nat.sub_zero, Nat.reduceLeDiff, okD, okD?, add_r, lt_r, ge_r, gt_r, le_r, sub_r, len_l, len_t, neg_r, Bool.not_true, Bool.not_false, isN_r, isNonD]
    exact ofS_tree _ _ _ _ _ rfl
  · unfold G_law_like_s1 G_law_like_s2 G_law_like_s3 G_law_like_s4
    simp only [ev_getV, ev_kGet, ev_kGetO, ev_pure, ev_frz, ev_kFrz, ev_kFrzL, ev_kFrzD, ev_kFrzX, ev_se, ev_kSe, ev_kSeX, ev_st, ev_kStT, ev_kStB, ev_e1, ev_kE1, ev_e2, ev_kE2, ev_eL, ev_kEL, ev_nil, ev_cons, ev_kCons, ev_kCons2, ev_boolR, ev_kBoolR, ev_notB, ev_kNot, ev_andB, ev_kAndT, ev_kAndF, ev_orB, ev_kOrT, ev_kOrF, ev_band, ev_kBandT, ev_kBandF, ev_bor, ev_kBorT, ev_kBorF, ev_t1, ev_kT1n, ev_ifE, ev_kIfT, ev_kIfF, ev_callE, ev_call1, ev_call1b, ev_call2, ev_call2b, ev_call3, ev_call3b, ev_kCallT, ev_kCallO, ev_kCallX, ev_noPart, ev_intPart, ev_kPart, ev_eS, ev_kSl1, ev_kSl2, ev_kSl3, ev_lst, ev_tup, ev_tup0, ev_tup1, ev_tup2, ev_tup3, ev_tup4, ev_lst0, ev_lst1, ev_lst2, ev_lst3, ev_lst4, ev_eMt, ev_kMt, ev_seq, ev_kSeqN, ev_kSeqR, ev_kSeqX, ev_kSeqB, ev_kSeqC, ev_ret, ev_kRetT, ev_kRetO, ev_kRetX, ev_ifS, ev_kIfST, ev_kIfSF, ev_nx, ev_set, ev_kSetT, ev_own, ev_kOwn, ev_box, ev_kBox, ev_drop, ev_kDrop, ev_setIx, ev_kSetIx1, ev_kSetIx2, ev_kSetIx3, ev_kSetIx4, ev_par, ev_kPar, ev_asg, ev_kAsg, ev_for, ev_kFor, ev_it, ev_kItT, ev_kItL, ev_kItS, ev_rng1, ev_kRng1, ev_lc, List.getElem?_cons_zero, List.getElem?_cons_succ, List.set_cons_zero, List.set_cons_succ, slots, List.map_cons, List.map_nil, List.length_cons, List.length_nil, List.replicate_succ, List.replicate_zero, List.cons_append, List.nil_append, List.append_nil, Nat.reduceSub, Nat.reduceAdd, Nat.zero_add, Nat.sub_self, Nat.sub_zero, Nat.reduceLeDiff, okD, okD?, add_r, lt_r, ge_r, gt_r, le_r, sub_r, len_l, len_t, neg_r, Bool.not_true, Bool.not_false, isN_r, isNonD, isi_s, Ty.sub, eq_s x x _ h1 h1, decide_true]
    exact ofS_tree _ _ _ _ _ rfl
theorem ne_b (a : Bool) (m : M) : eqF true (.t (.bl a)) (.t (.bl a)) m = .ok (.av (.t (.bl false))) m := by cases a <;> rfl
theorem ix_2 (d : D) (j : Int) (m : M) (h : j = 0 ∨ j = 1) : ixF (.t (.lst [d, d])) (.t (.int j)) m = .ok (.av (.t d)) m := by
  rcases h with rfl | rfl <;> rfl
theorem like_l (n b : Nat) (S : List Cell) (d : D) (h : Sm d) : S_law_like (n + 2) b [.t (.lst [d, d]), .t (.lst [d, d])] S = .ret (.av (.t (.bl true))) S := by
  rw [S_law_like, mkT_of, G_law_like]
  have lp := lc_ok 2 (stE (G_law_like_e1 (S_law_like (n + 1)))) (fun _ => .bl true) [some (.av (.t (.lst [d, d]))), some (.av (.t (.lst [d, d]))), none] S S.length rfl (BL.upTo 0 2) (by decide) fun a ha => by
    have hj : ∃ j : Int, a = .int j ∧ (j = 0 ∨ j = 1) := by
      have : a ∈ [D.int 0, D.int 1] := ha
      rcases List.mem_cons.mp this with rfl | h
      · exact ⟨0, rfl, .inl rfl⟩
      · rw [List.mem_singleton.mp h]; exact ⟨1, rfl, .inr rfl⟩
    obtain ⟨j, rfl, hj⟩ := hj
    unfold G_law_like_e1
    simp only [ev_getV, ev_kGet, ev_kGetO, ev_pure, ev_frz, ev_kFrz, ev_kFrzL, ev_kFrzD, ev_kFrzX, ev_se, ev_kSe, ev_kSeX, ev_st, ev_kStT, ev_kStB, ev_e1, ev_kE1, ev_e2, ev_kE2, ev_eL, ev_kEL, ev_nil, ev_cons, ev_kCons, ev_kCons2, ev_boolR, ev_kBoolR, ev_notB, ev_kNot, ev_andB, ev_kAndT, ev_kAndF, ev_orB, ev_kOrT, ev_kOrF, ev_band, ev_kBandT, ev_kBandF, ev_bor, ev_kBorT, ev_kBorF, ev_t1, ev_kT1n, ev_ifE, ev_kIfT, ev_kIfF, ev_callE, ev_call1, ev_call1b, ev_call2, ev_call2b, ev_call3, ev_call3b, ev_kCallT, ev_kCallO, ev_kCallX, ev_noPart, ev_intPart, ev_kPart, ev_eS, ev_kSl1, ev_kSl2, ev_kSl3, ev_lst, ev_tup, ev_tup0, ev_tup1, ev_tup2, ev_tup3, ev_tup4, ev_lst0, ev_lst1, ev_lst2, ev_lst3, ev_lst4, ev_eMt, ev_kMt, ev_seq, ev_kSeqN, ev_kSeqR, ev_kSeqX, ev_kSeqB, ev_kSeqC, ev_ret, ev_kRetT, ev_kRetO, ev_kRetX, ev_ifS, ev_kIfST, ev_kIfSF, ev_nx, ev_set, ev_kSetT, ev_own, ev_kOwn, ev_box, ev_kBox, ev_drop, ev_kDrop, ev_setIx, ev_kSetIx1, ev_kSetIx2, ev_kSetIx3, ev_kSetIx4, ev_par, ev_kPar, ev_asg, ev_kAsg, ev_for, ev_kFor, ev_it, ev_kItT, ev_kItL, ev_kItS, ev_rng1, ev_kRng1, ev_lc, List.getElem?_cons_zero, List.getElem?_cons_succ, List.set_cons_zero, List.set_cons_succ, slots, List.map_cons, List.map_nil, List.length_cons, List.length_nil, List.replicate_succ, List.replicate_zero, List.cons_append, List.nil_append, List.append_nil, Nat.reduceSub, Nat.reduceAdd, Nat.zero_add, Nat.sub_self, Nat.sub_zero, Nat.reduceLeDiff, okD, okD?, add_r, lt_r, ge_r, gt_r, le_r, sub_r, len_l, len_t, neg_r, Bool.not_true, Bool.not_false, ix_2 _ _ _ hj, like_s n S.length S d h]
  have hr : ∀ m : M, kRng1 (.ok [.t (.int ((2 : Nat) : Int))] m) = .ok (BL.upTo 0 2) m := fun m => rfl
  unfold G_law_like_s1 G_law_like_s2 G_law_like_s3 G_law_like_s4 G_law_like_s5 G_law_like_s6 G_law_like_s7
  have hne : decide (((2 : Nat) : Int) ≠ ((2 : Nat) : Int)) = false := by decide
  simp only [ev_getV, ev_kGet, ev_kGetO, ev_pure, ev_frz, ev_kFrz, ev_kFrzL, ev_kFrzD, ev_kFrzX, ev_se, ev_kSe, ev_kSeX, ev_st, ev_kStT, ev_kStB, ev_e1, ev_kE1, ev_e2, ev_kE2, ev_eL, ev_kEL, ev_nil, ev_cons, ev_kCons, ev_kCons2, ev_boolR, ev_kBoolR, ev_notB, ev_kNot, ev_andB, ev_kAndT, ev_kAndF, ev_orB, ev_kOrT, ev_kOrF, ev_band, ev_kBandT, ev_kBandF, ev_bor, ev_kBorT, ev_kBorF, ev_t1, ev_kT1n, ev_ifE, ev_kIfT, ev_kIfF, ev_callE, ev_call1, ev_call1b, ev_call2, ev_call2b, ev_call3, ev_call3b, ev_kCallT, ev_kCallO, ev_kCallX, ev_noPart, ev_intPart, ev_kPart, ev_eS, ev_kSl1, ev_kSl2, ev_kSl3, ev_lst, ev_tup, ev_tup0, ev_tup1, ev_tup2, ev_tup3, ev_tup4, ev_lst0, ev_lst1, ev_lst2, ev_lst3, ev_lst4, ev_eMt, ev_kMt, ev_seq, ev_kSeqN, ev_kSeqR, ev_kSeqX, ev_kSeqB, ev_kSeqC, ev_ret, ev_kRetT, ev_kRetO, ev_kRetX, ev_ifS, ev_kIfST, ev_kIfSF, ev_nx, ev_set, ev_kSetT, ev_own, ev_kOwn, ev_box, ev_kBox, ev_drop, ev_kDrop, ev_setIx, ev_kSetIx1, ev_kSetIx2, ev_kSetIx3, ev_kSetIx4, ev_par, ev_kPar, ev_asg, ev_kAsg, ev_for, ev_kFor, ev_it, ev_kItT, ev_kItL, ev_kItS, ev_rng1, ev_kRng1, ev_lc, List.getElem?_cons_zero, List.getElem?_cons_succ, List.set_cons_zero, List.set_cons_succ, slots, List.map_cons, List.map_nil, List.length_cons, List.length_nil, List.replicate_succ, List.replicate_zero, List.cons_append, List.nil_append, List.append_nil, Nat.reduceSub, Nat.reduceAdd, Nat.zero_add, Nat.sub_self, Nat.sub_zero, Nat.reduceLeDiff, okD, okD?, add_r, lt_r, ge_r, gt_r, le_r, sub_r, len_l, len_t, neg_r, Bool.not_true, Bool.not_false, isN_r, isNonD, isi_l, Ty.sub, ne_b, ne_i, hne, hr, lp]
  exact ofS_tree _ _ _ _ _ rfl

end Lm
end part_Ld7_k22

section part_Ld8_k22
set_option Elab.async false
set_option linter.all false
set_option maxRecDepth 100000
set_option maxHeartbeats 8000000
set_option autoImplicit false
open PySem BL Lw
namespace Lm
/-! ### the law -/
theorem flw_sm (d : D) : Sm (flw d) := by
  unfold flw
  split
  · split
    · exact .inr ⟨_, rfl, by decide, rfl⟩
    · split
      · exact .inr ⟨_, rfl, by decide, rfl⟩
      · exact .inl rfl
  · exact .inr ⟨_, rfl, by decide, rfl⟩
abbrev ls (k : D) (a b c e : Option SV) (S : List Cell) : M := ⟨[some (.av (.t k)), some (.av (.b 0)), a, b, c, e], S, 0⟩
theorem four_ix (r : Int) (m : M) (h0 : 0 ≤ r) (h1 : r < 4) : ∃ n : Int, 1 ≤ n ∧ n ≤ 18 ∧ ixF (.t (.lst [.int 4, .int 9, .int 16, .int 18])) (.t (.int r)) m = .ok (.av (.t (.int n))) m := by
  have : r = 0 ∨ r = 1 ∨ r = 2 ∨ r = 3 := by omega
  rcases this with rfl | rfl | rfl | rfl
  · exact ⟨4, by decide, by decide, rfl⟩
  · exact ⟨9, by decide, by decide, rfl⟩
  · exact ⟨16, by decide, by decide, rfl⟩
  · exact ⟨18, by decide, by decide, rfl⟩
theorem wrap (k : D) (a c : Option SV) (S : List Cell) : ∀ (ds : List D) (n : Nat) (d : D) (e : Option SV), Pat n d → ∃ d' e', Pat (n + ds.length) d' ∧ forGo (nameB 5) G_law_l1 ds (ls k a (some (.av (.t d))) c e S) = .nx (ls k a (some (.av (.t d'))) c e' S)
  | [], n, d, e, h => ⟨d, e, h, rfl⟩
  | x :: ds, n, d, e, h => by
    obtain ⟨d', e', h', e1⟩ := wrap k a c S ds (n + 1) (.tup [.str wA, d]) (some (.av (.t x))) (.tup rfl (by decide) (by simp) fun y hy => by rw [List.mem_singleton.mp hy]; exact h)
    refine ⟨d', e', by rw [List.length_cons]; exact h'.mono (by omega), ?_⟩
    rw [← e1]
    refine forGo_nx (name_t _ _ _ _ _) ?_
    unfold G_law_l1 ls
    simp only [ev_getV, ev_kGet, ev_kGetO, ev_pure, ev_frz, ev_kFrz, ev_kFrzL, ev_kFrzD, ev_kFrzX, ev_se, ev_kSe, ev_kSeX, ev_st, ev_kStT, ev_kStB, ev_e1, ev_kE1, ev_e2, ev_kE2, ev_eL, ev_kEL, ev_nil, ev_cons, ev_kCons, ev_kCons2, ev_boolR, ev_kBoolR, ev_notB, ev_kNot, ev_andB, ev_kAndT, ev_kAndF, ev_orB, ev_kOrT, ev_kOrF, ev_band, ev_kBandT, ev_kBandF, ev_bor, ev_kBorT, ev_kBorF, ev_t1, ev_kT1n, ev_ifE, ev_kIfT, ev_kIfF, ev_callE, ev_call1, ev_call1b, ev_call2, ev_call2b, ev_call3, ev_call3b, ev_kCallT, ev_kCallO, ev_kCallX, ev_noPart, ev_intPart, ev_kPart, ev_eS, ev_kSl1, ev_kSl2, ev_kSl3, ev_lst, ev_tup, ev_tup0, ev_tup1, ev_tup2, ev_tup3, ev_tup4, ev_lst0, ev_lst1, ev_lst2, ev_lst3, ev_lst4, ev_eMt, ev_kMt, ev_seq, ev_kSeqN, ev_kSeqR, ev_kSeqX, ev_kSeqB, ev_kSeqC, ev_ret, ev_kRetT, ev_kRetO, ev_kRetX, ev_ifS, ev_kIfST, ev_kIfSF, ev_nx, ev_set, ev_kSetT, ev_own, ev_kOwn, ev_box, ev_kBox, ev_drop, ev_kDrop, ev_setIx, ev_kSetIx1, ev_kSetIx2, ev_kSetIx3, ev_kSetIx4, ev_par, ev_kPar, ev_asg, ev_kAsg, ev_for, ev_kFor, ev_it, ev_kItT, ev_kItL, ev_kItS, ev_rng1, ev_kRng1, ev_lc, List.getElem?_cons_zero, List.getElem?_cons_succ, List.set_cons_zero, List.set_cons_succ, slots, List.map_cons, List.map_nil, List.length_cons, List.length_nil, List.replicate_succ, List.replicate_zero, List.cons_append, List.nil_append, List.append_nil, Nat.reduceSub, Nat.reduceAdd, Nat.zero_add, Nat.sub_self, Nat.sub_zero, Nat.reduceLeDiff, okD, okD?, add_r, lt_r, ge_r, gt_r, le_r, sub_r, len_l, len_t, neg_r, Bool.not_true, Bool.not_false]
    rfl
section
variable {S : List Cell} (hi : 0 < S.length) (k : D) (ns : List Int)
include hi
theorem l_1 (a b c e : Option SV) (p q s : Int) (g : Good p q s) : ∃ d p' q' s', Good p' q' s' ∧ Pat 18 d ∧ G_law_l2_s1 (ls k a b c e (S.set 0 (draw (intsD ns) p q s))) = .nx (ls k a (some (.av (.t d))) c e (S.set 0 (draw (intsD ns) p' q' s'))) := by
  obtain ⟨bs, p1, q1, s1, g1, hl, hb, e1⟩ := law_letters 0 0 ns p q s S hi g 3 (by decide)
  obtain ⟨r, p2, q2, s2, hr0, hr1, g2, e2⟩ := pull 0 0 4 ns p1 q1 s1 S hi g1 (by decide) (by decide)
  obtain ⟨n, hn0, hn1, _⟩ := four_ix r ⟨[], [], 0⟩ hr0 hr1
  have hix : ∃ n : Int, 1 ≤ n ∧ n ≤ 18 ∧ ∀ m : M, ixF (.t (.lst [.int 4, .int 9, .int 16, .int 18])) (.t (.int r)) m = .ok (.av (.t (.int n))) m := by
    have : r = 0 ∨ r = 1 ∨ r = 2 ∨ r = 3 := by omega
    rcases this with rfl | rfl | rfl | rfl
    · exact ⟨4, by decide, by decide, fun m => rfl⟩
    · exact ⟨9, by decide, by decide, fun m => rfl⟩
    · exact ⟨16, by decide, by decide, fun m => rfl⟩
    · exact ⟨18, by decide, by decide, fun m => rfl⟩
  obtain ⟨n, hn0, hn1, hix⟩ := hix
  obtain ⟨d, p3, q3, s3, g3, hd, e3⟩ := pattern 0 bs ns (by omega) (by omega) hb 39 n hn0 (by omega) (by omega) 0 p2 q2 s2 S hi g2
  refine ⟨d, p3, q3, s3, g3, hd.mono (by omega), ?_⟩
  have e1' : S_law_letters 0 [.b 0, .t (.int 3)] (S.set 0 (draw (intsD ns) p q s)) = .ret (.own (.lst bs)) (S.set 0 (draw (intsD ns) p1 q1 s1)) := e1
  have e3' : S_law_pattern 40 0 [.b 0, .t (.lst bs), .t (.int n)] (S.set 0 (draw (intsD ns) p2 q2 s2)) = .ret (.av (.t d)) (S.set 0 (draw (intsD ns) p3 q3 s3)) := e3
  unfold G_law_l2_s1 ls
  simp only [ev_getV, ev_kGet, ev_kGetO, ev_pure, ev_frz, ev_kFrz, ev_kFrzL, ev_kFrzD, ev_kFrzX, ev_se, ev_kSe, ev_kSeX, ev_st, ev_kStT, ev_kStB, ev_e1, ev_kE1, ev_e2, ev_kE2, ev_eL, ev_kEL, ev_nil, ev_cons, ev_kCons, ev_kCons2, ev_boolR, ev_kBoolR, ev_notB, ev_kNot, ev_andB, ev_kAndT, ev_kAndF, ev_orB, ev_kOrT, ev_kOrF, ev_band, ev_kBandT, ev_kBandF, ev_bor, ev_kBorT, ev_kBorF, ev_t1, ev_kT1n, ev_ifE, ev_kIfT, ev_kIfF, ev_callE, ev_call1, ev_call1b, ev_call2, ev_call2b, ev_call3, ev_call3b, ev_kCallT, ev_kCallO, ev_kCallX, ev_noPart, ev_intPart, ev_kPart, ev_eS, ev_kSl1, ev_kSl2, ev_kSl3, ev_lst, ev_tup, ev_tup0, ev_tup1, ev_tup2, ev_tup3, ev_tup4, ev_lst0, ev_lst1, ev_lst2, ev_lst3, ev_lst4, ev_eMt, ev_kMt, ev_seq, ev_kSeqN, ev_kSeqR, ev_kSeqX, ev_kSeqB, ev_kSeqC, ev_ret, ev_kRetT, ev_kRetO, ev_kRetX, ev_ifS, ev_kIfST, ev_kIfSF, ev_nx, ev_set, ev_kSetT, ev_own, ev_kOwn, ev_box, ev_kBox, ev_drop, ev_kDrop, ev_setIx, ev_kSetIx1, ev_kSetIx2, ev_kSetIx3, ev_kSetIx4, ev_par, ev_kPar, ev_asg, ev_kAsg, ev_for, ev_kFor, ev_it, ev_kItT, ev_kItL, ev_kItS, ev_rng1, ev_kRng1, ev_lc, List.getElem?_cons_zero, List.getElem?_cons_succ, List.set_cons_zero, List.set_cons_succ, slots, List.map_cons, List.map_nil, List.length_cons, List.length_nil, List.replicate_succ, List.replicate_zero, List.cons_append, List.nil_append, List.append_nil, Nat.reduceSub, Nat.reduceAdd, Nat.zero_add, Nat.sub_self, Nat.sub_zero, Nat.reduceLeDiff, okD, okD?, add_r, lt_r, ge_r, gt_r, le_r, sub_r, len_l, len_t, neg_r, Bool.not_true, Bool.not_false, e1', e2, hix, e3']
theorem l_2 (a b c e : Option SV) (p q s : Int) (g : Good p q s) : ∃ r p' q' s', Good p' q' s' ∧ G_law_l2_s2 (ls k a b c e (S.set 0 (draw (intsD ns) p q s))) = .nx (ls k a b (some (.av (.t (.int r)))) e (S.set 0 (draw (intsD ns) p' q' s'))) := by
  obtain ⟨r, p1, q1, s1, hr0, hr1, g1, e1⟩ := pull 0 0 6 ns p q s S hi g (by decide) (by decide)
  refine ⟨r, p1, q1, s1, g1, ?_⟩
  unfold G_law_l2_s2 ls
  simp only [ev_getV, ev_kGet, ev_kGetO, ev_pure, ev_frz, ev_kFrz, ev_kFrzL, ev_kFrzD, ev_kFrzX, ev_se, ev_kSe, ev_kSeX, ev_st, ev_kStT, ev_kStB, ev_e1, ev_kE1, ev_e2, ev_kE2, ev_eL, ev_kEL, ev_nil, ev_cons, ev_kCons, ev_kCons2, ev_boolR, ev_kBoolR, ev_notB, ev_kNot, ev_andB, ev_kAndT, ev_kAndF, ev_orB, ev_kOrT, ev_kOrF, ev_band, ev_kBandT, ev_kBandF, ev_bor, ev_kBorT, ev_kBorF, ev_t1, ev_kT1n, ev_ifE, ev_kIfT, ev_kIfF, ev_callE, ev_call1, ev_call1b, ev_call2, ev_call2b, ev_call3, ev_call3b, ev_kCallT, ev_kCallO, ev_kCallX, ev_noPart, ev_intPart, ev_kPart, ev_eS, ev_kSl1, ev_kSl2, ev_kSl3, ev_lst, ev_tup, ev_tup0, ev_tup1, ev_tup2, ev_tup3, ev_tup4, ev_lst0, ev_lst1, ev_lst2, ev_lst3, ev_lst4, ev_eMt, ev_kMt, ev_seq, ev_kSeqN, ev_kSeqR, ev_kSeqX, ev_kSeqB, ev_kSeqC, ev_ret, ev_kRetT, ev_kRetO, ev_kRetX, ev_ifS, ev_kIfST, ev_kIfSF, ev_nx, ev_set, ev_kSetT, ev_own, ev_kOwn, ev_box, ev_kBox, ev_drop, ev_kDrop, ev_setIx, ev_kSetIx1, ev_kSetIx2, ev_kSetIx3, ev_kSetIx4, ev_par, ev_kPar, ev_asg, ev_kAsg, ev_for, ev_kFor, ev_it, ev_kItT, ev_kItL, ev_kItS, ev_rng1, ev_kRng1, ev_lc, List.getElem?_cons_zero, List.getElem?_cons_succ, List.set_cons_zero, List.set_cons_succ, slots, List.map_cons, List.map_nil, List.length_cons, List.length_nil, List.replicate_succ, List.replicate_zero, List.cons_append, List.nil_append, List.append_nil, Nat.reduceSub, Nat.reduceAdd, Nat.zero_add, Nat.sub_self, Nat.sub_zero, Nat.reduceLeDiff, okD, okD?, add_r, lt_r, ge_r, gt_r, le_r, sub_r, len_l, len_t, neg_r, Bool.not_true, Bool.not_false, e1]
theorem l_3 (a e : Option SV) (d : D) (hd : Pat 18 d) (r : Int) (p q s : Int) (g : Good p q s) : ∃ d' e' p' q' s', Good p' q' s' ∧ Pat 31 d' ∧ G_law_l2_s3 (ls k a (some (.av (.t d))) (some (.av (.t (.int r)))) e (S.set 0 (draw (intsD ns) p q s))) = .nx (ls k a (some (.av (.t d'))) (some (.av (.t (.int r)))) e' (S.set 0 (draw (intsD ns) p' q' s'))) := by
  by_cases h0 : r = 0
  · obtain ⟨z, p1, q1, s1, hz0, hz1, g1, e1⟩ := pull 0 0 9 ns p q s S hi g (by decide) (by decide)
    obtain ⟨d', e', hd', e2⟩ := wrap k a (some (.av (.t (.int r)))) (S.set 0 (draw (intsD ns) p1 q1 s1)) (BL.upTo 0 (4 + z).toNat) 18 d e hd
    rw [upTo_len] at hd'
    refine ⟨d', e', p1, q1, s1, g1, hd'.mono (by omega), ?_⟩
    have ok : okI (4 + z) = true := by
      unfold okI
      rw [decide_eq_true (by omega), decide_eq_true (by omega)]; rfl
    unfold G_law_l2_s3 ls
    simp only [ev_getV, ev_kGet, ev_kGetO, ev_pure, ev_frz, ev_kFrz, ev_kFrzL, ev_kFrzD, ev_kFrzX, ev_se, ev_kSe, ev_kSeX, ev_st, ev_kStT, ev_kStB, ev_e1, ev_kE1, ev_e2, ev_kE2, ev_eL, ev_kEL, ev_nil, ev_cons, ev_kCons, ev_kCons2, ev_boolR, ev_kBoolR, ev_notB, ev_kNot, ev_andB, ev_kAndT, ev_kAndF, ev_orB, ev_kOrT, ev_kOrF, ev_band, ev_kBandT, ev_kBandF, ev_bor, ev_kBorT, ev_kBorF, ev_t1, ev_kT1n, ev_ifE, ev_kIfT, ev_kIfF, ev_callE, ev_call1, ev_call1b, ev_call2, ev_call2b, ev_call3, ev_call3b, ev_kCallT, ev_kCallO, ev_kCallX, ev_noPart, ev_intPart, ev_kPart, ev_eS, ev_kSl1, ev_kSl2, ev_kSl3, ev_lst, ev_tup, ev_tup0, ev_tup1, ev_tup2, ev_tup3, ev_tup4, ev_lst0, ev_lst1, ev_lst2, ev_lst3, ev_lst4, ev_eMt, ev_kMt, ev_seq, ev_kSeqN, ev_kSeqR, ev_kSeqX, ev_kSeqB, ev_kSeqC, ev_ret, ev_kRetT, ev_kRetO, ev_kRetX, ev_ifS, ev_kIfST, ev_kIfSF, ev_nx, ev_set, ev_kSetT, ev_own, ev_kOwn, ev_box, ev_kBox, ev_drop, ev_kDrop, ev_setIx, ev_kSetIx1, ev_kSetIx2, ev_kSetIx3, ev_kSetIx4, ev_par, ev_kPar, ev_asg, ev_kAsg, ev_for, ev_kFor, ev_it, ev_kItT, ev_kItL, ev_kItS, ev_rng1, ev_kRng1, ev_lc, List.getElem?_cons_zero, List.getElem?_cons_succ, List.set_cons_zero, List.set_cons_succ, slots, List.map_cons, List.map_nil, List.length_cons, List.length_nil, List.replicate_succ, List.replicate_zero, List.cons_append, List.nil_append, List.append_nil, Nat.reduceSub, Nat.reduceAdd, Nat.zero_add, Nat.sub_self, Nat.sub_zero, Nat.reduceLeDiff, okD, okD?, add_r, lt_r, ge_r, gt_r, le_r, sub_r, len_l, len_t, neg_r, Bool.not_true, Bool.not_false, eq_i, decide_eq_true h0, e1, ev_kRng1 _ _ ok]
    exact e2
  · refine ⟨d, e, p, q, s, g, hd.mono (by decide), ?_⟩
    unfold G_law_l2_s3 ls
    simp only [ev_getV, ev_kGet, ev_kGetO, ev_pure, ev_frz, ev_kFrz, ev_kFrzL, ev_kFrzD, ev_kFrzX, ev_se, ev_kSe, ev_kSeX, ev_st, ev_kStT, ev_kStB, ev_e1, ev_kE1, ev_e2, ev_kE2, ev_eL, ev_kEL, ev_nil, ev_cons, ev_kCons, ev_kCons2, ev_boolR, ev_kBoolR, ev_notB, ev_kNot, ev_andB, ev_kAndT, ev_kAndF, ev_orB, ev_kOrT, ev_kOrF, ev_band, ev_kBandT, ev_kBandF, ev_bor, ev_kBorT, ev_kBorF, ev_t1, ev_kT1n, ev_ifE, ev_kIfT, ev_kIfF, ev_callE, ev_call1, ev_call1b, ev_call2, ev_call2b, ev_call3, ev_call3b, ev_kCallT, ev_kCallO, ev_kCallX, ev_noPart, ev_intPart, ev_kPart, ev_eS, ev_kSl1, ev_kSl2, ev_kSl3, ev_lst, ev_tup, ev_tup0, ev_tup1, ev_tup2, ev_tup3, ev_tup4, ev_lst0, ev_lst1, ev_lst2, ev_lst3, ev_lst4, ev_eMt, ev_kMt, ev_seq, ev_kSeqN, ev_kSeqR, ev_kSeqX, ev_kSeqB, ev_kSeqC, ev_ret, ev_kRetT, ev_kRetO, ev_kRetX, ev_ifS, ev_kIfST, ev_kIfSF, ev_nx, ev_set, ev_kSetT, ev_own, ev_kOwn, ev_box, ev_kBox, ev_drop, ev_kDrop, ev_setIx, ev_kSetIx1, ev_kSetIx2, ev_kSetIx3, ev_kSetIx4, ev_par, ev_kPar, ev_asg, ev_kAsg, ev_for, ev_kFor, ev_it, ev_kItT, ev_kItL, ev_kItS, ev_rng1, ev_kRng1, ev_lc, List.getElem?_cons_zero, List.getElem?_cons_succ, List.set_cons_zero, List.set_cons_succ, slots, List.map_cons, List.map_nil, List.length_cons, List.length_nil, List.replicate_succ, List.replicate_zero, List.cons_append, List.nil_append, List.append_nil, Nat.reduceSub, Nat.reduceAdd, Nat.zero_add, Nat.sub_self, Nat.sub_zero, Nat.reduceLeDiff, okD, okD?, add_r, lt_r, ge_r, gt_r, le_r, sub_r, len_l, len_t, neg_r, Bool.not_true, Bool.not_false, eq_i, decide_eq_false h0]
theorem l_4 (a e : Option SV) (d : D) (hd : Pat 31 d) (r : Int) (T : List Cell) : ∃ d', Pat 33 d' ∧ G_law_l2_s4 (ls k a (some (.av (.t d))) (some (.av (.t (.int r)))) e T) = .nx (ls k a (some (.av (.t d'))) (some (.av (.t (.int r)))) e T) := by
  by_cases h0 : r = 1
  · refine ⟨.tup [.str wT, d, .tup [.str wO, d, .tup [.str wE]]], .tup rfl (by decide) (by simp) fun x hx => ?_, ?_⟩
    · rcases List.mem_cons.mp hx with rfl | hx
      · exact hd.mono (by decide)
      · rw [List.mem_singleton.mp hx]
        refine .tup rfl (by decide) (by simp) fun x hx => ?_
        rcases List.mem_cons.mp hx with rfl | hx
        · exact hd
        · rw [List.mem_singleton.mp hx]
          exact .tup rfl (by decide) (by simp) fun x hx => by cases hx
    · unfold G_law_l2_s4 ls
      simp only [ev_getV, ev_kGet, ev_kGetO, ev_pure, ev_frz, ev_kFrz, ev_kFrzL, ev_kFrzD, ev_kFrzX, ev_se, ev_kSe, ev_kSeX, ev_st, ev_kStT, ev_kStB, ev_e1, ev_kE1, ev_e2, ev_kE2, ev_eL, ev_kEL, ev_nil, ev_cons, ev_kCons, ev_kCons2, ev_boolR, ev_kBoolR, ev_notB, ev_kNot, ev_andB, ev_kAndT, ev_kAndF, ev_orB, ev_kOrT, ev_kOrF, ev_band, ev_kBandT, ev_kBandF, ev_bor, ev_kBorT, ev_kBorF, ev_t1, ev_kT1n, ev_ifE, ev_kIfT, ev_kIfF, ev_callE, ev_call1, ev_call1b, ev_call2, ev_call2b, ev_call3, ev_call3b, ev_kCallT, ev_kCallO, ev_kCallX, ev_noPart, ev_intPart, ev_kPart, ev_eS, ev_kSl1, ev_kSl2, ev_kSl3, ev_lst, ev_tup, ev_tup0, ev_tup1, ev_tup2, ev_tup3, ev_tup4, ev_lst0, ev_lst1, ev_lst2, ev_lst3, ev_lst4, ev_eMt, ev_kMt, ev_seq, ev_kSeqN, ev_kSeqR, ev_kSeqX, ev_kSeqB, ev_kSeqC, ev_ret, ev_kRetT, ev_kRetO, ev_kRetX, ev_ifS, ev_kIfST, ev_kIfSF, ev_nx, ev_set, ev_kSetT, ev_own, ev_kOwn, ev_box, ev_kBox, ev_drop, ev_kDrop, ev_setIx, ev_kSetIx1, ev_kSetIx2, ev_kSetIx3, ev_kSetIx4, ev_par, ev_kPar, ev_asg, ev_kAsg, ev_for, ev_kFor, ev_it, ev_kItT, ev_kItL, ev_kItS, ev_rng1, ev_kRng1, ev_lc, List.getElem?_cons_zero, List.getElem?_cons_succ, List.set_cons_zero, List.set_cons_succ, slots, List.map_cons, List.map_nil, List.length_cons, List.length_nil, List.replicate_succ, List.replicate_zero, List.cons_append, List.nil_append, List.append_nil, Nat.reduceSub, Nat.reduceAdd, Nat.zero_add, Nat.sub_self, Nat.sub_zero, Nat.reduceLeDiff, okD, okD?, add_r, lt_r, ge_r, gt_r, le_r, sub_r, len_l, len_t, neg_r, Bool.not_true, Bool.not_false, eq_i, decide_eq_true h0]
      rfl
  · refine ⟨d, hd.mono (by decide), ?_⟩
    unfold G_law_l2_s4 ls
    simp only [ev_getV, ev_kGet, ev_kGetO, ev_pure, ev_frz, ev_kFrz, ev_kFrzL, ev_kFrzD, ev_kFrzX, ev_se, ev_kSe, ev_kSeX, ev_st, ev_kStT, ev_kStB, ev_e1, ev_kE1, ev_e2, ev_kE2, ev_eL, ev_kEL, ev_nil, ev_cons, ev_kCons, ev_kCons2, ev_boolR, ev_kBoolR, ev_notB, ev_kNot, ev_andB, ev_kAndT, ev_kAndF, ev_orB, ev_kOrT, ev_kOrF, ev_band, ev_kBandT, ev_kBandF, ev_bor, ev_kBorT, ev_kBorF, ev_t1, ev_kT1n, ev_ifE, ev_kIfT, ev_kIfF, ev_callE, ev_call1, ev_call1b, ev_call2, ev_call2b, ev_call3, ev_call3b, ev_kCallT, ev_kCallO, ev_kCallX, ev_noPart, ev_intPart, ev_kPart, ev_eS, ev_kSl1, ev_kSl2, ev_kSl3, ev_lst, ev_tup, ev_tup0, ev_tup1, ev_tup2, ev_tup3, ev_tup4, ev_lst0, ev_lst1, ev_lst2, ev_lst3, ev_lst4, ev_eMt, ev_kMt, ev_seq, ev_kSeqN, ev_kSeqR, ev_kSeqX, ev_kSeqB, ev_kSeqC, ev_ret, ev_kRetT, ev_kRetO, ev_kRetX, ev_ifS, ev_kIfST, ev_kIfSF, ev_nx, ev_set, ev_kSetT, ev_own, ev_kOwn, ev_box, ev_kBox, ev_drop, ev_kDrop, ev_setIx, ev_kSetIx1, ev_kSetIx2, ev_kSetIx3, ev_kSetIx4, ev_par, ev_kPar, ev_asg, ev_kAsg, ev_for, ev_kFor, ev_it, ev_kItT, ev_kItL, ev_kItS, ev_rng1, ev_kRng1, ev_lc, List.getElem?_cons_zero, List.getElem?_cons_succ, List.set_cons_zero, List.set_cons_succ, slots, List.map_cons, List.map_nil, List.length_cons, List.length_nil, List.replicate_succ, List.replicate_zero, List.cons_append, List.nil_append, List.append_nil, Nat.reduceSub, Nat.reduceAdd, Nat.zero_add, Nat.sub_self, Nat.sub_zero, Nat.reduceLeDiff, okD, okD?, add_r, lt_r, ge_r, gt_r, le_r, sub_r, len_l, len_t, neg_r, Bool.not_true, Bool.not_false, eq_i, decide_eq_false h0]
theorem l_5 (a c e : Option SV) (d : D) (hd : Pat 33 d) (p q s : Int) (g : Good p q s) : ∃ d' p' q' s', Good p' q' s' ∧ Tre 39 d' ∧ G_law_l2_s5 (ls k a (some (.av (.t d))) c e (S.set 0 (draw (intsD ns) p q s))) = .nx (ls k a (some (.av (.t d'))) c e (S.set 0 (draw (intsD ns) p' q' s'))) := by
  obtain ⟨r, p1, q1, s1, hr0, hr1, g1, e1⟩ := pull 0 0 3 ns p q s S hi g (by decide) (by decide)
  by_cases h0 : r = 0
  · obtain ⟨z, p2, q2, s2, hz0, hz1, g2, e2⟩ := pull 0 0 60 ns p1 q1 s1 S hi g1 (by decide) (by decide)
    obtain ⟨o, p3, q3, s3, g3, ho, e3⟩ := odd_thing 0 0 ns p2 q2 s2 S hi g2
    obtain ⟨d', hd', e4⟩ := put_in o ho 39 33 d hd (by decide) z hz0 0 (S.set 0 (draw (intsD ns) p3 q3 s3))
    have e4' : S_law_put_in 40 0 [.t d, .t (.int z), .t o] (S.set 0 (draw (intsD ns) p3 q3 s3)) = .ret (.av (.t d')) (S.set 0 (draw (intsD ns) p3 q3 s3)) := e4
    refine ⟨d', p3, q3, s3, g3, hd'.mono (by decide), ?_⟩
    unfold G_law_l2_s5 ls
    simp only [ev_getV, ev_kGet, ev_kGetO, ev_pure, ev_frz, ev_kFrz, ev_kFrzL, ev_kFrzD, ev_kFrzX, ev_se, ev_kSe, ev_kSeX, ev_st, ev_kStT, ev_kStB, ev_e1, ev_kE1, ev_e2, ev_kE2, ev_eL, ev_kEL, ev_nil, ev_cons, ev_kCons, ev_kCons2, ev_boolR, ev_kBoolR, ev_notB, ev_kNot, ev_andB, ev_kAndT, ev_kAndF, ev_orB, ev_kOrT, ev_kOrF, ev_band, ev_kBandT, ev_kBandF, ev_bor, ev_kBorT, ev_kBorF, ev_t1, ev_kT1n, ev_ifE, ev_kIfT, ev_kIfF, ev_callE, ev_call1, ev_call1b, ev_call2, ev_call2b, ev_call3, ev_call3b, ev_kCallT, ev_kCallO, ev_kCallX, ev_noPart, ev_intPart, ev_kPart, ev_eS, ev_kSl1, ev_kSl2, ev_kSl3, ev_lst, ev_tup, ev_tup0, ev_tup1, ev_tup2, ev_tup3, ev_tup4, ev_lst0, ev_lst1, ev_lst2, ev_lst3, ev_lst4, ev_eMt, ev_kMt, ev_seq, ev_kSeqN, ev_kSeqR, ev_kSeqX, ev_kSeqB, ev_kSeqC, ev_ret, ev_kRetT, ev_kRetO, ev_kRetX, ev_ifS, ev_kIfST, ev_kIfSF, ev_nx, ev_set, ev_kSetT, ev_own, ev_kOwn, ev_box, ev_kBox, ev_drop, ev_kDrop, ev_setIx, ev_kSetIx1, ev_kSetIx2, ev_kSetIx3, ev_kSetIx4, ev_par, ev_kPar, ev_asg, ev_kAsg, ev_for, ev_kFor, ev_it, ev_kItT, ev_kItL, ev_kItS, ev_rng1, ev_kRng1, ev_lc, List.getElem?_cons_zero, List.getElem?_cons_succ, List.set_cons_zero, List.set_cons_succ, slots, List.map_cons, List.map_nil, List.length_cons, List.length_nil, List.replicate_succ, List.replicate_zero, List.cons_append, List.nil_append, List.append_nil, Nat.reduceSub, Nat.reduceAdd, Nat.zero_add, Nat.sub_self, Nat.sub_zero, Nat.reduceLeDiff, okD, okD?, add_r, lt_r, ge_r, gt_r, le_r, sub_r, len_l, len_t, neg_r, Bool.not_true, Bool.not_false, e1, eq_i, decide_eq_true h0, e2, e3, e4']
  · refine ⟨d, p1, q1, s1, g1, hd.tre.mono (by decide), ?_⟩
    unfold G_law_l2_s5 ls
    simp only [ev_getV, ev_kGet, ev_kGetO, ev_pure, ev_frz, ev_kFrz, ev_kFrzL, ev_kFrzD, ev_kFrzX, ev_se, ev_kSe, ev_kSeX, ev_st, ev_kStT, ev_kStB, ev_e1, ev_kE1, ev_e2, ev_kE2, ev_eL, ev_kEL, ev_nil, ev_cons, ev_kCons, ev_kCons2, ev_boolR, ev_kBoolR, ev_notB, ev_kNot, ev_andB, ev_kAndT, ev_kAndF, ev_orB, ev_kOrT, ev_kOrF, ev_band, ev_kBandT, ev_kBandF, ev_bor, ev_kBorT, ev_kBorF, ev_t1, ev_kT1n, ev_ifE, ev_kIfT, ev_kIfF, ev_callE, ev_call1, ev_call1b, ev_call2, ev_call2b, ev_call3, ev_call3b, ev_kCallT, ev_kCallO, ev_kCallX, ev_noPart, ev_intPart, ev_kPart, ev_eS, ev_kSl1, ev_kSl2, ev_kSl3, ev_lst, ev_tup, ev_tup0, ev_tup1, ev_tup2, ev_tup3, ev_tup4, ev_lst0, ev_lst1, ev_lst2, ev_lst3, ev_lst4, ev_eMt, ev_kMt, ev_seq, ev_kSeqN, ev_kSeqR, ev_kSeqX, ev_kSeqB, ev_kSeqC, ev_ret, ev_kRetT, ev_kRetO, ev_kRetX, ev_ifS, ev_kIfST, ev_kIfSF, ev_nx, ev_set, ev_kSetT, ev_own, ev_kOwn, ev_box, ev_kBox, ev_drop, ev_kDrop, ev_setIx, ev_kSetIx1, ev_kSetIx2, ev_kSetIx3, ev_kSetIx4, ev_par, ev_kPar, ev_asg, ev_kAsg, ev_for, ev_kFor, ev_it, ev_kItT, ev_kItL, ev_kItS, ev_rng1, ev_kRng1, ev_lc, List.getElem?_cons_zero, List.getElem?_cons_succ, List.set_cons_zero, List.set_cons_succ, slots, List.map_cons, List.map_nil, List.length_cons, List.length_nil, List.replicate_succ, List.replicate_zero, List.cons_append, List.nil_append, List.append_nil, Nat.reduceSub, Nat.reduceAdd, Nat.zero_add, Nat.sub_self, Nat.sub_zero, Nat.reduceLeDiff, okD, okD?, add_r, lt_r, ge_r, gt_r, le_r, sub_r, len_l, len_t, neg_r, Bool.not_true, Bool.not_false, e1, eq_i, decide_eq_false h0]
end
theorem l_6 (k : D) (a c e : Option SV) (d : D) (hd : Tre 39 d) (T : List Cell) : G_law_l2_s6 (ls k a (some (.av (.t d))) c e T) = .nx (ls k a (some (.av (.t d))) c e T) := by
  have e1 := flaw hd 0 T
  have e2 := law_flaw hd 0 T
  have e3 : S_law_like 40 0 [.t (.lst [flw d, flw d]), .t (.lst [flw d, flw d])] T = .ret (.av (.t (.bl true))) T := like_l 38 0 T (flw d) (flw_sm d)
  have e4 : ∀ m : M, mulF (.t (.lst [flw d])) (.t (.int 2)) m = .ok (.own (.lst [flw d, flw d])) m := fun m => rfl
  unfold G_law_l2_s6 ls
  simp only [ev_getV, ev_kGet, ev_kGetO, ev_pure, ev_frz, ev_kFrz, ev_kFrzL, ev_kFrzD, ev_kFrzX, ev_se, ev_kSe, ev_kSeX, ev_st, ev_kStT, ev_kStB, ev_e1, ev_kE1, ev_e2, ev_kE2, ev_eL, ev_kEL, ev_nil, ev_cons, ev_kCons, ev_kCons2, ev_boolR, ev_kBoolR, ev_notB, ev_kNot, ev_andB, ev_kAndT, ev_kAndF, ev_orB, ev_kOrT, ev_kOrF, ev_band, ev_kBandT, ev_kBandF, ev_bor, ev_kBorT, ev_kBorF, ev_t1, ev_kT1n, ev_ifE, ev_kIfT, ev_kIfF, ev_callE, ev_call1, ev_call1b, ev_call2, ev_call2b, ev_call3, ev_call3b, ev_kCallT, ev_kCallO, ev_kCallX, ev_noPart, ev_intPart, ev_kPart, ev_eS, ev_kSl1, ev_kSl2, ev_kSl3, ev_lst, ev_tup, ev_tup0, ev_tup1, ev_tup2, ev_tup3, ev_tup4, ev_lst0, ev_lst1, ev_lst2, ev_lst3, ev_lst4, ev_eMt, ev_kMt, ev_seq, ev_kSeqN, ev_kSeqR, ev_kSeqX, ev_kSeqB, ev_kSeqC, ev_ret, ev_kRetT, ev_kRetO, ev_kRetX, ev_ifS, ev_kIfST, ev_kIfSF, ev_nx, ev_set, ev_kSetT, ev_own, ev_kOwn, ev_box, ev_kBox, ev_drop, ev_kDrop, ev_setIx, ev_kSetIx1, ev_kSetIx2, ev_kSetIx3, ev_kSetIx4, ev_par, ev_kPar, ev_asg, ev_kAsg, ev_for, ev_kFor, ev_it, ev_kItT, ev_kItL, ev_kItS, ev_rng1, ev_kRng1, ev_lc, List.getElem?_cons_zero, List.getElem?_cons_succ, List.set_cons_zero, List.set_cons_succ, slots, List.map_cons, List.map_nil, List.length_cons, List.length_nil, List.replicate_succ, List.replicate_zero, List.cons_append, List.nil_append, List.append_nil, Nat.reduceSub, Nat.reduceAdd, Nat.zero_add, Nat.sub_self, Nat.sub_zero, Nat.reduceLeDiff, okD, okD?, add_r, lt_r, ge_r, gt_r, le_r, sub_r, len_l, len_t, neg_r, Bool.not_true, Bool.not_false, e1, e2, e3, e4]
theorem flw_bad {d : D} (h : isForm d = false) : flw d = .str [102, 111, 114, 109] := by
  have e : bui (39 + 1) d = false := by
    unfold bui
    rw [h]
  unfold flw
  rw [e, if_neg Bool.false_ne_true]
theorem flw_k : flw (.tup [.str [98, 101, 97, 100], .str [107]]) = .non := by
  have hf : isForm (.tup [.str [98, 101, 97, 100], .str [107]]) = true := rfl
  have e : bui (39 + 1) (.tup [.str [98, 101, 97, 100], .str [107]]) = true := by
    unfold bui
    rw [hf]
    rfl
  have e1 : prt (39 + 1) (.tup [.str [98, 101, 97, 100], .str [107]]) = 1 := by
    unfold prt
    exact if_pos (.inr rfl)
  have e2 : dpt (39 + 1) (.tup [.str [98, 101, 97, 100], .str [107]]) = 1 := by
    unfold dpt
    exact if_pos (.inr rfl)
  unfold flw
  rw [e, if_pos rfl, e1, e2]
  rfl
theorem flw_at : flw (.int 3) = .str [102, 111, 114, 109] ∧ flw (.str []) = .str [102, 111, 114, 109] ∧ flw (.str [101, 109, 112, 116, 121]) = .str [102, 111, 114, 109] ∧ flw (.tup []) = .str [102, 111, 114, 109] ∧ flw (.int (-1)) = .str [102, 111, 114, 109] ∧ flw (.tup [.str [98, 101, 97, 100], .str [107]]) = .non := ⟨flw_bad rfl, flw_bad rfl, flw_bad rfl, flw_bad rfl, flw_bad rfl, flw_k⟩
theorem l3_ok (k : D) (a c e : Option SV) (d x : D) (hd : Tre 39 d) (T : List Cell) (hx : flw d = x) (hs : Sm x) (he : ∀ m : M, eqF false (.t d) (.t (.tup [.str [98, 101, 97, 100], .str [107]])) m = .ok (.av (.t (.bl (isNonD x)))) m) (hc : x = .non ∨ x = .str [102, 111, 114, 109]) : G_law_l3 (ls k a (some (.av (.t d))) c e T) = .nx (ls k a (some (.av (.t d))) c e T) := by
  have e1 := flaw hd 0 T
  rw [hx] at e1
  have e3 : S_law_like 40 0 [.t x, .t x] T = .ret (.av (.t (.bl true))) T := like_s 39 0 T x hs
  rcases hc with rfl | rfl
  · unfold G_law_l3 ls
    simp only [ev_getV, ev_kGet, ev_kGetO, ev_pure, ev_frz, ev_kFrz, ev_kFrzL, ev_kFrzD, ev_kFrzX, ev_se, ev_kSe, ev_kSeX, ev_st, ev_kStT, ev_kStB, ev_e1, ev_kE1, ev_e2, ev_kE2, ev_eL, ev_kEL, ev_nil, ev_cons, ev_kCons, ev_kCons2, ev_boolR, ev_kBoolR, ev_notB, ev_kNot, ev_andB, ev_kAndT, ev_kAndF, ev_orB, ev_kOrT, ev_kOrF, ev_band, ev_kBandT, ev_kBandF, ev_bor, ev_kBorT, ev_kBorF, ev_t1, ev_kT1n, ev_ifE, ev_kIfT, ev_kIfF, ev_callE, ev_call1, ev_call1b, ev_call2, ev_call2b, ev_call3, ev_call3b, ev_kCallT, ev_kCallO, ev_kCallX, ev_noPart, ev_intPart, ev_kPart, ev_eS, ev_kSl1, ev_kSl2, ev_kSl3, ev_lst, ev_tup, ev_tup0, ev_tup1, ev_tup2, ev_tup3, ev_tup4, ev_lst0, ev_lst1, ev_lst2, ev_lst3, ev_lst4, ev_eMt, ev_kMt, ev_seq, ev_kSeqN, ev_kSeqR, ev_kSeqX, ev_kSeqB, ev_kSeqC, ev_ret, ev_kRetT, ev_kRetO, ev_kRetX, ev_ifS, ev_kIfST, ev_kIfSF, ev_nx, ev_set, ev_kSetT, ev_own, ev_kOwn, ev_box, ev_kBox, ev_drop, ev_kDrop, ev_setIx, ev_kSetIx1, ev_kSetIx2, ev_kSetIx3, ev_kSetIx4, ev_par, ev_kPar, ev_asg, ev_kAsg, ev_for, ev_kFor, ev_it, ev_kItT, ev_kItL, ev_kItS, ev_rng1, ev_kRng1, ev_lc, List.getElem?_cons_zero, List.getElem?_cons_succ, List.set_cons_zero, List.set_cons_succ, slots, List.map_cons, List.map_nil, List.length_cons, List.length_nil, List.replicate_succ, List.replicate_zero, List.cons_append, List.nil_append, List.append_nil, Nat.reduceSub, Nat.reduceAdd, Nat.zero_add, Nat.sub_self, Nat.sub_zero, Nat.reduceLeDiff, okD, okD?, add_r, lt_r, ge_r, gt_r, le_r, sub_r, len_l, len_t, neg_r, Bool.not_true, Bool.not_false, e1, he, isNonD, e3]
  · unfold G_law_l3 ls
    simp only [ev_getV, ev_kGet, ev_kGetO, ev_pure, ev_frz, ev_kFrz, ev_kFrzL, ev_kFrzD, ev_kFrzX, ev_se, ev_kSe, ev_kSeX, ev_st, ev_kStT, ev_kStB, ev_e1, ev_kE1, ev_e2, ev_kE2, ev_eL, ev_kEL, ev_nil, ev_cons, ev_kCons, ev_kCons2, ev_boolR, ev_kBoolR, ev_notB, ev_kNot, ev_andB, ev_kAndT, ev_kAndF, ev_orB, ev_kOrT, ev_kOrF, ev_band, ev_kBandT, ev_kBandF, ev_bor, ev_kBorT, ev_kBorF, ev_t1, ev_kT1n, ev_ifE, ev_kIfT, ev_kIfF, ev_callE, ev_call1, ev_call1b, ev_call2, ev_call2b, ev_call3, ev_call3b, ev_kCallT, ev_kCallO, ev_kCallX, ev_noPart, ev_intPart, ev_kPart, ev_eS, ev_kSl1, ev_kSl2, ev_kSl3, ev_lst, ev_tup, ev_tup0, ev_tup1, ev_tup2, ev_tup3, ev_tup4, ev_lst0, ev_lst1, ev_lst2, ev_lst3, ev_lst4, ev_eMt, ev_kMt, ev_seq, ev_kSeqN, ev_kSeqR, ev_kSeqX, ev_kSeqB, ev_kSeqC, ev_ret, ev_kRetT, ev_kRetO, ev_kRetX, ev_ifS, ev_kIfST, ev_kIfSF, ev_nx, ev_set, ev_kSetT, ev_own, ev_kOwn, ev_box, ev_kBox, ev_drop, ev_kDrop, ev_setIx, ev_kSetIx1, ev_kSetIx2, ev_kSetIx3, ev_kSetIx4, ev_par, ev_kPar, ev_asg, ev_kAsg, ev_for, ev_kFor, ev_it, ev_kItT, ev_kItL, ev_kItS, ev_rng1, ev_kRng1, ev_lc, List.getElem?_cons_zero, List.getElem?_cons_succ, List.set_cons_zero, List.set_cons_succ, slots, List.map_cons, List.map_nil, List.length_cons, List.length_nil, List.replicate_succ, List.replicate_zero, List.cons_append, List.nil_append, List.append_nil, Nat.reduceSub, Nat.reduceAdd, Nat.zero_add, Nat.sub_self, Nat.sub_zero, Nat.reduceLeDiff, okD, okD?, add_r, lt_r, ge_r, gt_r, le_r, sub_r, len_l, len_t, neg_r, Bool.not_true, Bool.not_false, e1, he, isNonD, e3]

end Lm
end part_Ld8_k22

section part_Ld9_k22
set_option Elab.async false
set_option linter.all false
set_option maxRecDepth 100000
set_option maxHeartbeats 8000000
set_option autoImplicit false
open PySem BL Lw
namespace Lm
theorem tup6 (a b c d e f : D) (m : M) : kTup (.ok [.t a, .t b, .t c, .t d, .t e, .t f] m) = .ok (.av (.t (.tup [a, b, c, d, e, f]))) m := rfl
theorem tre_0 : Tre 39 (.tup []) := .tup (by simp) fun x hx => by cases hx
theorem tre_k : Tre 39 (.tup [.str [98, 101, 97, 100], .str [107]]) := .tup (by simp) fun x hx => by
  rcases List.mem_cons.mp hx with rfl | hx
  · exact .str rfl (by decide)
  · rw [List.mem_singleton.mp hx]; exact .str rfl (by decide)
theorem law_4 (k : D) (a b c e : Option SV) (T : List Cell) : G_law_s4 (ls k a b c e T) = .ret (.av (.t (.bl true))) (ls k a b c e T) := by
  unfold G_law_s4 ls
  simp only [ev_getV, ev_kGet, ev_kGetO, ev_pure, ev_frz, ev_kFrz, ev_kFrzL, ev_kFrzD, ev_kFrzX, ev_se, ev_kSe, ev_kSeX, ev_st, ev_kStT, ev_kStB, ev_e1, ev_kE1, ev_e2, ev_kE2, ev_eL, ev_kEL, ev_nil, ev_cons, ev_kCons, ev_kCons2, ev_boolR, ev_kBoolR, ev_notB, ev_kNot, ev_andB, ev_kAndT, ev_kAndF, ev_orB, ev_kOrT, ev_kOrF, ev_band, ev_kBandT, ev_kBandF, ev_bor, ev_kBorT, ev_kBorF, ev_t1, ev_kT1n, ev_ifE, ev_kIfT, ev_kIfF, ev_callE, ev_call1, ev_call1b, ev_call2, ev_call2b, ev_call3, ev_call3b, ev_kCallT, ev_kCallO, ev_kCallX, ev_noPart, ev_intPart, ev_kPart, ev_eS, ev_kSl1, ev_kSl2, ev_kSl3, ev_lst, ev_tup, ev_tup0, ev_tup1, ev_tup2, ev_tup3, ev_tup4, ev_lst0, ev_lst1, ev_lst2, ev_lst3, ev_lst4, ev_eMt, ev_kMt, ev_seq, ev_kSeqN, ev_kSeqR, ev_kSeqX, ev_kSeqB, ev_kSeqC, ev_ret, ev_kRetT, ev_kRetO, ev_kRetX, ev_ifS, ev_kIfST, ev_kIfSF, ev_nx, ev_set, ev_kSetT, ev_own, ev_kOwn, ev_box, ev_kBox, ev_drop, ev_kDrop, ev_setIx, ev_kSetIx1, ev_kSetIx2, ev_kSetIx3, ev_kSetIx4, ev_par, ev_kPar, ev_asg, ev_kAsg, ev_for, ev_kFor, ev_it, ev_kItT, ev_kItL, ev_kItS, ev_rng1, ev_kRng1, ev_lc, List.getElem?_cons_zero, List.getElem?_cons_succ, List.set_cons_zero, List.set_cons_succ, slots, List.map_cons, List.map_nil, List.length_cons, List.length_nil, List.replicate_succ, List.replicate_zero, List.cons_append, List.nil_append, List.append_nil, Nat.reduceSub, Nat.reduceAdd, Nat.zero_add, Nat.sub_self, Nat.sub_zero, Nat.reduceLeDiff, okD, okD?, add_r, lt_r, ge_r, gt_r, le_r, sub_r, len_l, len_t, neg_r, Bool.not_true, Bool.not_false, eq_i, decide_true]
theorem law_true (ns : List Int) (h : ns.length ≤ 63) : S_law 0 [.t (.kls (intsD ns))] [] = .ret (.av (.t (.bl true))) [] := by
  rw [S_law, mkT_of, G_law]
  obtain ⟨ks, s, g, e1⟩ := law_open 0 ns []
  have es1 : G_law_s1 ⟨slots 6 [.t (.kls (intsD ns))], [], ([] : List Cell).length⟩ = .nx (ls (.kls (intsD ns)) none none none none ([draw (intsD ks) 0 0 s].set 0 (draw (intsD ks) 0 0 s))) := by
    unfold G_law_s1 ls
    simp only [ev_getV, ev_kGet, ev_kGetO, ev_pure, ev_frz, ev_kFrz, ev_kFrzL, ev_kFrzD, ev_kFrzX, ev_se, ev_kSe, ev_kSeX, ev_st, ev_kStT, ev_kStB, ev_e1, ev_kE1, ev_e2, ev_kE2, ev_eL, ev_kEL, ev_nil, ev_cons, ev_kCons, ev_kCons2, ev_boolR, ev_kBoolR, ev_notB, ev_kNot, ev_andB, ev_kAndT, ev_kAndF, ev_orB, ev_kOrT, ev_kOrF, ev_band, ev_kBandT, ev_kBandF, ev_bor, ev_kBorT, ev_kBorF, ev_t1, ev_kT1n, ev_ifE, ev_kIfT, ev_kIfF, ev_callE, ev_call1, ev_call1b, ev_call2, ev_call2b, ev_call3, ev_call3b, ev_kCallT, ev_kCallO, ev_kCallX, ev_noPart, ev_intPart, ev_kPart, ev_eS, ev_kSl1, ev_kSl2, ev_kSl3, ev_lst, ev_tup, ev_tup0, ev_tup1, ev_tup2, ev_tup3, ev_tup4, ev_lst0, ev_lst1, ev_lst2, ev_lst3, ev_lst4, ev_eMt, ev_kMt, ev_seq, ev_kSeqN, ev_kSeqR, ev_kSeqX, ev_kSeqB, ev_kSeqC, ev_ret, ev_kRetT, ev_kRetO, ev_kRetX, ev_ifS, ev_kIfST, ev_kIfSF, ev_nx, ev_set, ev_kSetT, ev_own, ev_kOwn, ev_box, ev_kBox, ev_drop, ev_kDrop, ev_setIx, ev_kSetIx1, ev_kSetIx2, ev_kSetIx3, ev_kSetIx4, ev_par, ev_kPar, ev_asg, ev_kAsg, ev_for, ev_kFor, ev_it, ev_kItT, ev_kItL, ev_kItS, ev_rng1, ev_kRng1, ev_lc, List.getElem?_cons_zero, List.getElem?_cons_succ, List.set_cons_zero, List.set_cons_succ, slots, List.map_cons, List.map_nil, List.length_cons, List.length_nil, List.replicate_succ, List.replicate_zero, List.cons_append, List.nil_append, List.append_nil, Nat.reduceSub, Nat.reduceAdd, Nat.zero_add, Nat.sub_self, Nat.sub_zero, Nat.reduceLeDiff, okD, okD?, add_r, lt_r, ge_r, gt_r, le_r, sub_r, len_l, len_t, neg_r, Bool.not_true, Bool.not_false, e1]
    rfl
  rw [ev_seq, es1, ev_kSeqN, ev_seq]
  have inv := for_inv (nameB 2) G_law_l2 (fun m => ∃ a b c e p q s', Good p q s' ∧ m = ls (.kls (intsD ns)) a b c e ([draw (intsD ks) 0 0 s].set 0 (draw (intsD ks) p q s'))) (BL.upTo 0 6) (by
    rintro x hx m ⟨a, b, c, e, p, q, s', g, rfl⟩
    have hi : 0 < [draw (intsD ks) 0 0 s].length := Nat.zero_lt_one
    obtain ⟨d1, p1, q1, s1, g1, h1, r1⟩ := l_1 hi (.kls (intsD ns)) ks (some (.av (.t x))) b c e p q s' g
    obtain ⟨w, p2, q2, s2, g2, r2⟩ := l_2 hi (.kls (intsD ns)) ks (some (.av (.t x))) (some (.av (.t d1))) c e p1 q1 s1 g1
    obtain ⟨d3, e3, p3, q3, s3, g3, h3, r3⟩ := l_3 hi (.kls (intsD ns)) ks (some (.av (.t x))) e d1 h1 w p2 q2 s2 g2
    obtain ⟨d4, h4, r4⟩ := l_4 hi (.kls (intsD ns)) (some (.av (.t x))) e3 d3 h3 w ([draw (intsD ks) 0 0 s].set 0 (draw (intsD ks) p3 q3 s3))
    obtain ⟨d5, p5, q5, s5, g5, h5, r5⟩ := l_5 hi (.kls (intsD ns)) ks (some (.av (.t x))) (some (.av (.t (.int w)))) e3 d4 h4 p3 q3 s3 g3
    have r6 := l_6 (.kls (intsD ns)) (some (.av (.t x))) (some (.av (.t (.int w)))) e3 d5 h5 ([draw (intsD ks) 0 0 s].set 0 (draw (intsD ks) p5 q5 s5))
    refine ⟨_, ls (.kls (intsD ns)) (some (.av (.t x))) (some (.av (.t d5))) (some (.av (.t (.int w)))) e3 ([draw (intsD ks) 0 0 s].set 0 (draw (intsD ks) p5 q5 s5)), name_t _ _ _ _ _, ?_, some (.av (.t x)), some (.av (.t d5)), some (.av (.t (.int w))), e3, p5, q5, s5, g5, rfl⟩
    show G_law_l2 (ls (.kls (intsD ns)) (some (.av (.t x))) b c e ([draw (intsD ks) 0 0 s].set 0 (draw (intsD ks) p q s'))) = _
    unfold G_law_l2
    rw [ev_seq, r1, ev_kSeqN, ev_seq, r2, ev_kSeqN, ev_seq, r3, ev_kSeqN, ev_seq, r4, ev_kSeqN, ev_seq, r5, ev_kSeqN, r6])
    (ls (.kls (intsD ns)) none none none none ([draw (intsD ks) 0 0 s].set 0 (draw (intsD ks) 0 0 s))) ⟨none, none, none, none, 0, 0, s, g, rfl⟩
  obtain ⟨m', e2, a, b, c, e, p, q, s', g', rfl⟩ := inv
  have es2 : G_law_s2 (ls (.kls (intsD ns)) none none none none ([draw (intsD ks) 0 0 s].set 0 (draw (intsD ks) 0 0 s))) = .nx (ls (.kls (intsD ns)) a b c e ([draw (intsD ks) 0 0 s].set 0 (draw (intsD ks) p q s'))) := by
    unfold G_law_s2
    rw [ev_for, ev_rng1, ev_cons, ev_pure, ev_kCons, ev_nil, ev_kCons2]
    exact e2
  rw [es2, ev_kSeqN, ev_seq]
  generalize ([draw (intsD ks) 0 0 s].set 0 (draw (intsD ks) p q s')) = T
  obtain ⟨f1, f2, f3, f4, f5, f6⟩ := flw_at
  have fm : Sm (.str [102, 111, 114, 109]) := .inr ⟨_, rfl, by decide, rfl⟩
  have es3 : G_law_s3 (ls (.kls (intsD ns)) a b c e T) = .nx (ls (.kls (intsD ns)) a (some (.av (.t (.tup [.str [98, 101, 97, 100], .str [107]])))) c e T) := by
    have it : G_law_s3 (ls (.kls (intsD ns)) a b c e T) = forGo (nameB 3) G_law_l3 [.int 3, .str [], .str [101, 109, 112, 116, 121], .tup [], .int (-1), .tup [.str [98, 101, 97, 100], .str [107]]] (ls (.kls (intsD ns)) a b c e T) := by
      unfold G_law_s3 ls
      simp only [ev_getV, ev_kGet, ev_kGetO, ev_pure, ev_frz, ev_kFrz, ev_kFrzL, ev_kFrzD, ev_kFrzX, ev_se, ev_kSe, ev_kSeX, ev_st, ev_kStT, ev_kStB, ev_e1, ev_kE1, ev_e2, ev_kE2, ev_eL, ev_kEL, ev_nil, ev_cons, ev_kCons, ev_kCons2, ev_boolR, ev_kBoolR, ev_notB, ev_kNot, ev_andB, ev_kAndT, ev_kAndF, ev_orB, ev_kOrT, ev_kOrF, ev_band, ev_kBandT, ev_kBandF, ev_bor, ev_kBorT, ev_kBorF, ev_t1, ev_kT1n, ev_ifE, ev_kIfT, ev_kIfF, ev_callE, ev_call1, ev_call1b, ev_call2, ev_call2b, ev_call3, ev_call3b, ev_kCallT, ev_kCallO, ev_kCallX, ev_noPart, ev_intPart, ev_kPart, ev_eS, ev_kSl1, ev_kSl2, ev_kSl3, ev_lst, ev_tup, ev_tup0, ev_tup1, ev_tup2, ev_tup3, ev_tup4, ev_lst0, ev_lst1, ev_lst2, ev_lst3, ev_lst4, ev_eMt, ev_kMt, ev_seq, ev_kSeqN, ev_kSeqR, ev_kSeqX, ev_kSeqB, ev_kSeqC, ev_ret, ev_kRetT, ev_kRetO, ev_kRetX, ev_ifS, ev_kIfST, ev_kIfSF, ev_nx, ev_set, ev_kSetT, ev_own, ev_kOwn, ev_box, ev_kBox, ev_drop, ev_kDrop, ev_setIx, ev_kSetIx1, ev_kSetIx2, ev_kSetIx3, ev_kSetIx4, ev_par, ev_kPar, ev_asg, ev_kAsg, ev_for, ev_kFor, ev_it, ev_kItT, ev_kItL, ev_kItS, ev_rng1, ev_kRng1, ev_lc, List.getElem?_cons_zero, List.getElem?_cons_succ, List.set_cons_zero, List.set_cons_succ, slots, List.map_cons, List.map_nil, List.length_cons, List.length_nil, List.replicate_succ, List.replicate_zero, List.cons_append, List.nil_append, List.append_nil, Nat.reduceSub, Nat.reduceAdd, Nat.zero_add, Nat.sub_self, Nat.sub_zero, Nat.reduceLeDiff, okD, okD?, add_r, lt_r, ge_r, gt_r, le_r, sub_r, len_l, len_t, neg_r, Bool.not_true, Bool.not_false, tup6]
    rw [it]
    refine (forGo_nx (name_t _ _ _ _ _) (l3_ok _ a c e _ _ .int T f1 fm (fun m => rfl) (.inr rfl))).trans ?_
    refine (forGo_nx (name_t _ _ _ _ _) (l3_ok _ a c e _ _ (.str rfl (by decide)) T f2 fm (fun m => rfl) (.inr rfl))).trans ?_
    refine (forGo_nx (name_t _ _ _ _ _) (l3_ok _ a c e _ _ (.str rfl (by decide)) T f3 fm (fun m => rfl) (.inr rfl))).trans ?_
    refine (forGo_nx (name_t _ _ _ _ _) (l3_ok _ a c e _ _ tre_0 T f4 fm (fun m => rfl) (.inr rfl))).trans ?_
    refine (forGo_nx (name_t _ _ _ _ _) (l3_ok _ a c e _ _ .int T f5 fm (fun m => rfl) (.inr rfl))).trans ?_
    exact (forGo_nx (name_t _ _ _ _ _) (l3_ok _ a c e _ _ tre_k T f6 (.inl rfl) (fun m => rfl) (.inl rfl))).trans rfl
  rw [es3, ev_kSeqN, law_4]
  rfl

end Lm
end part_Ld9_k22

section part_Lh_k22
set_option Elab.async false
set_option linter.all false
set_option maxRecDepth 100000
set_option maxHeartbeats 0
set_option autoImplicit false
namespace Hd
open PySem PySem.Spec PyProof.Rows L2 BL Lw
def d2 : He.DefD := ⟨("is_bead", none), "is_bead", "is_bead", defArgs (top 2), defBody (top 2), defScope (top 2), [], []⟩
def d7 : He.DefD := ⟨("is_form", none), "is_form", "is_form", defArgs (top 7), defBody (top 7), defScope (top 7), [], []⟩
def d8 : He.DefD := ⟨("measured", none), "measured", "measured", defArgs (top 8), defBody (top 8), defScope (top 8), [], []⟩
def d9 : He.DefD := ⟨("flaw", none), "flaw", "flaw", defArgs (top 9), defBody (top 9), defScope (top 9), [], []⟩
def d11 : He.DefD := ⟨("_law_open", none), "_law_open", "_law_open", defArgs (top 11), defBody (top 11), defScope (top 11), [], []⟩
def d12 : He.DefD := ⟨("_law_pull", none), "_law_pull", "_law_pull", defArgs (top 12), defBody (top 12), defScope (top 12), [], []⟩
def d13 : He.DefD := ⟨("_law_like", none), "_law_like", "_law_like", defArgs (top 13), defBody (top 13), defScope (top 13), [], []⟩
def d14 : He.DefD := ⟨("_law_any", none), "_law_any", "_law_any", defArgs (top 14), defBody (top 14), defScope (top 14), [], []⟩
def d15 : He.DefD := ⟨("_law_letters", none), "_law_letters", "_law_letters", defArgs (top 15), defBody (top 15), defScope (top 15), [], []⟩
def d16 : He.DefD := ⟨("_law_pattern", none), "_law_pattern", "_law_pattern", defArgs (top 16), defBody (top 16), defScope (top 16), [], []⟩
def d17 : He.DefD := ⟨("_law_parts", none), "_law_parts", "_law_parts", defArgs (top 17), defBody (top 17), defScope (top 17), [], []⟩
def d18 : He.DefD := ⟨("_law_deep", none), "_law_deep", "_law_deep", defArgs (top 18), defBody (top 18), defScope (top 18), [], []⟩
def d19 : He.DefD := ⟨("_law_is_built", none), "_law_is_built", "_law_is_built", defArgs (top 19), defBody (top 19), defScope (top 19), [], []⟩
def d20 : He.DefD := ⟨("_law_flaw", none), "_law_flaw", "_law_flaw", defArgs (top 20), defBody (top 20), defScope (top 20), [], []⟩
def d21 : He.DefD := ⟨("_law_put_in", none), "_law_put_in", "_law_put_in", defArgs (top 21), defBody (top 21), defScope (top 21), [], []⟩
def d22 : He.DefD := ⟨("_law_odd_thing", none), "_law_odd_thing", "_law_odd_thing", defArgs (top 22), defBody (top 22), defScope (top 22), [], []⟩
def d23 : He.DefD := ⟨("law", none), "law", "law", defArgs (top 23), defBody (top 23), defScope (top 23), [], []⟩
def fn : List He.DefD := [d2, d7, d8, d9, d11, d12, d13, d14, d15, d16, d17, d18, d19, d20, d21, d22, d23]
def fa : List He.Fa := [.glo "is_bead", .glo "is_form", .glo "measured", .glo "flaw", .glo "_law_open", .glo "_law_pull", .glo "_law_like", .glo "_law_any", .glo "_law_letters", .glo "_law_pattern", .glo "_law_parts", .glo "_law_deep", .glo "_law_is_built", .glo "_law_flaw", .glo "_law_put_in", .glo "_law_odd_thing", .glo "law", .free "all", .free "bool", .free "int", .free "isinstance", .free "len", .free "list", .free "max", .free "range", .free "str", .free "sum", .free "tuple", .str "LETTERS" "abcdefghijklmnopqrstuvwxyz", .int "MOST_DEEP" 6, .int "MOST_PARTS" 16, .glo "FORMS"]
def ks_FORMS : List Str := ["empty", "bead", "then", "or", "again"]
def vs_FORMS : List (Str × He.Dv) := [("empty", .str ""), ("bead", .str "b"), ("then", .str "pp"), ("or", .str "pp"), ("again", .str "p")]
def ts : List He.Tab := [(fun K => He.ga K "FORMS", ks_FORMS)]
def exq (K : PySem.W.Frag) : Bool := He.valsB K (He.ga K "FORMS") vs_FORMS && true
abbrev R : PySem.W.OpenRow := PySem.W.OpenLaw.row PySem.Challenge.rw_beadlane_k22_patterns_judged
abbrev hk : PySem.W.Hook := He.hookX 4 fa fn ts [] exq
def ob (s : PySem.W.SharedT) : He.AlX := He.obsX 4 fa fn ts [] exq (HandSHeadRun.getT s)
theorem ob_eq (s : PySem.W.SharedT) : ob s = hk.obs s.abs := He.obsX_eq (HandSHeadRun.getT_eq s)
def names : List PySem.Str := (["LETTERS", "is_bead", "MOST_PARTS", "MOST_DEEP", "FORMS", "is_form", "measured", "flaw", "_law_open", "_law_pull", "_law_like", "_law_any", "_law_letters", "_law_pattern", "_law_parts", "_law_deep", "_law_is_built", "_law_flaw", "_law_put_in", "_law_odd_thing"] : List PySem.Str)
theorem run (w : World) : HandSHeadRun.RunEq R (PySem.W.view R.prog [23]) hk ob 3000 names w :=
  PySem.W.byRow2 "special-get-raises" (P := fun w => HandSHeadRun.RunEq R (PySem.W.view R.prog [23]) hk ob 3000 names w) (fun w os => by kernel_rfl) (fun w os => by kernel_rfl) w
theorem wd {w : World} {K : PySem.W.Frag} {h : Heap} {mg : Str → Option Value} (X : K.In h) (G : h.Ns mainGlobals mg) (c : He.SaysX fa fn ts [] exq w h K) (base : Heap) : Lw.Wd ⟨PySem.Challenge.pw_beadlane_k22_patterns_judged, w, K, mg, base⟩ where
  f_is_bead := by
    obtain ⟨fd, F⟩ := c.t.d.def_ 0 (d := d2) rfl
    exact ⟨_, fd, He.glo_ok X G (c.t.d.fact 0 (f := .glo "is_bead") rfl), F⟩
  f_is_form := by
    obtain ⟨fd, F⟩ := c.t.d.def_ 1 (d := d7) rfl
    exact ⟨_, fd, He.glo_ok X G (c.t.d.fact 1 (f := .glo "is_form") rfl), F⟩
  f_measured := by
    obtain ⟨fd, F⟩ := c.t.d.def_ 2 (d := d8) rfl
    exact ⟨_, fd, He.glo_ok X G (c.t.d.fact 2 (f := .glo "measured") rfl), F⟩
  f_flaw := by
    obtain ⟨fd, F⟩ := c.t.d.def_ 3 (d := d9) rfl
    exact ⟨_, fd, He.glo_ok X G (c.t.d.fact 3 (f := .glo "flaw") rfl), F⟩
  f__law_open := by
    obtain ⟨fd, F⟩ := c.t.d.def_ 4 (d := d11) rfl
    exact ⟨_, fd, He.glo_ok X G (c.t.d.fact 4 (f := .glo "_law_open") rfl), F⟩
  f__law_pull := by
    obtain ⟨fd, F⟩ := c.t.d.def_ 5 (d := d12) rfl
    exact ⟨_, fd, He.glo_ok X G (c.t.d.fact 5 (f := .glo "_law_pull") rfl), F⟩
  f__law_like := by
    obtain ⟨fd, F⟩ := c.t.d.def_ 6 (d := d13) rfl
    exact ⟨_, fd, He.glo_ok X G (c.t.d.fact 6 (f := .glo "_law_like") rfl), F⟩
  f__law_any := by
    obtain ⟨fd, F⟩ := c.t.d.def_ 7 (d := d14) rfl
    exact ⟨_, fd, He.glo_ok X G (c.t.d.fact 7 (f := .glo "_law_any") rfl), F⟩
  f__law_letters := by
    obtain ⟨fd, F⟩ := c.t.d.def_ 8 (d := d15) rfl
    exact ⟨_, fd, He.glo_ok X G (c.t.d.fact 8 (f := .glo "_law_letters") rfl), F⟩
  f__law_pattern := by
    obtain ⟨fd, F⟩ := c.t.d.def_ 9 (d := d16) rfl
    exact ⟨_, fd, He.glo_ok X G (c.t.d.fact 9 (f := .glo "_law_pattern") rfl), F⟩
  f__law_parts := by
    obtain ⟨fd, F⟩ := c.t.d.def_ 10 (d := d17) rfl
    exact ⟨_, fd, He.glo_ok X G (c.t.d.fact 10 (f := .glo "_law_parts") rfl), F⟩
  f__law_deep := by
    obtain ⟨fd, F⟩ := c.t.d.def_ 11 (d := d18) rfl
    exact ⟨_, fd, He.glo_ok X G (c.t.d.fact 11 (f := .glo "_law_deep") rfl), F⟩
  f__law_is_built := by
    obtain ⟨fd, F⟩ := c.t.d.def_ 12 (d := d19) rfl
    exact ⟨_, fd, He.glo_ok X G (c.t.d.fact 12 (f := .glo "_law_is_built") rfl), F⟩
  f__law_flaw := by
    obtain ⟨fd, F⟩ := c.t.d.def_ 13 (d := d20) rfl
    exact ⟨_, fd, He.glo_ok X G (c.t.d.fact 13 (f := .glo "_law_flaw") rfl), F⟩
  f__law_put_in := by
    obtain ⟨fd, F⟩ := c.t.d.def_ 14 (d := d21) rfl
    exact ⟨_, fd, He.glo_ok X G (c.t.d.fact 14 (f := .glo "_law_put_in") rfl), F⟩
  f__law_odd_thing := by
    obtain ⟨fd, F⟩ := c.t.d.def_ 15 (d := d22) rfl
    exact ⟨_, fd, He.glo_ok X G (c.t.d.fact 15 (f := .glo "_law_odd_thing") rfl), F⟩
  f_law := by
    obtain ⟨fd, F⟩ := c.t.d.def_ 16 (d := d23) rfl
    exact ⟨_, fd, He.glo_ok X G (c.t.d.fact 16 (f := .glo "law") rfl), F⟩
  n_all := He.free_ok X G (c.t.d.fact 17 (f := .free "all") rfl)
  n_bool := He.free_ok X G (c.t.d.fact 18 (f := .free "bool") rfl)
  n_int := He.free_ok X G (c.t.d.fact 19 (f := .free "int") rfl)
  n_isinstance := He.free_ok X G (c.t.d.fact 20 (f := .free "isinstance") rfl)
  n_len := He.free_ok X G (c.t.d.fact 21 (f := .free "len") rfl)
  n_list := He.free_ok X G (c.t.d.fact 22 (f := .free "list") rfl)
  n_max := He.free_ok X G (c.t.d.fact 23 (f := .free "max") rfl)
  n_range := He.free_ok X G (c.t.d.fact 24 (f := .free "range") rfl)
  n_str := He.free_ok X G (c.t.d.fact 25 (f := .free "str") rfl)
  n_sum := He.free_ok X G (c.t.d.fact 26 (f := .free "sum") rfl)
  n_tuple := He.free_ok X G (c.t.d.fact 27 (f := .free "tuple") rfl)
  c_LETTERS := glv_str (He.str_ok X G (c.t.d.fact 28 (f := .str "LETTERS" "abcdefghijklmnopqrstuvwxyz") rfl)) (by kernel_rfl)
  c_MOST_DEEP := glv_int (He.int_ok X G (c.t.d.fact 29 (f := .int "MOST_DEEP" 6) rfl))
  c_MOST_PARTS := glv_int (He.int_ok X G (c.t.d.fact 30 (f := .int "MOST_PARTS" 16) rfl))
  t_FORMS := by
    have e0 := congrArg (fun z : He.AlT => z.2[0]?) c.t
    have e1 : some (He.dicW K (He.ga K "FORMS")) = some (some (He.keysIn w.params ks_FORMS)) := e0
    have ev : He.valsB K (He.ga K "FORMS") vs_FORMS = true := by
      have z := c.more
      simp only [exq, Bool.and_eq_true] at z
      first | exact z.1 | exact z
    refine kt_of (tab := tab_FORMS) (ks := ks_FORMS) (vs := vs_FORMS) (He.glo_ok X G (c.t.d.fact 31 (f := .glo "FORMS") rfl)) (Option.some.inj e1) ev (by kernel_rfl) ?_
    intro p hp
    simp only [tab_FORMS, List.mem_cons, List.not_mem_nil, or_false] at hp
    rcases hp with rfl | rfl | rfl | rfl | rfl
    · exact ⟨("empty", .str ""), by simp [vs_FORMS], by kernel_rfl, fun H => by first | rfl | (show V.str _ = V.str _; exact congrArg V.str (by kernel_rfl))⟩
    · exact ⟨("bead", .str "b"), by simp [vs_FORMS], by kernel_rfl, fun H => by first | rfl | (show V.str _ = V.str _; exact congrArg V.str (by kernel_rfl))⟩
    · exact ⟨("then", .str "pp"), by simp [vs_FORMS], by kernel_rfl, fun H => by first | rfl | (show V.str _ = V.str _; exact congrArg V.str (by kernel_rfl))⟩
    · exact ⟨("or", .str "pp"), by simp [vs_FORMS], by kernel_rfl, fun H => by first | rfl | (show V.str _ = V.str _; exact congrArg V.str (by kernel_rfl))⟩
    · exact ⟨("again", .str "p"), by simp [vs_FORMS], by kernel_rfl, fun H => by first | rfl | (show V.str _ = V.str _; exact congrArg V.str (by kernel_rfl))⟩
end Hd
open PySem PySem.W PySem.Calls PyProof.Rows
theorem PySem.Challenge.cw_beadlane_k22_patterns_judged_holds : PySem.Challenge.rw_beadlane_k22_patterns_judged.Holds := by
  w_on; o_law
  refine HandSHeadRun.head_any (r := OpenLaw.row PySem.Challenge.rw_beadlane_k22_patterns_judged) (q := view (OpenLaw.row PySem.Challenge.rw_beadlane_k22_patterns_judged).prog [23]) (H := Hd.hk) (ob := Hd.ob) (M := 3000) (loose := Hd.names) (d := HandSHeadRun.topDef (OpenLaw.row PySem.Challenge.rw_beadlane_k22_patterns_judged).prog 23) (kwd := []) Hd.ob_eq
    (by kernel_rfl) (fun s => by kernel_rfl) Hd.run (by kernel_rfl) (by kernel_rfl) (by kernel_rfl) (by rfl) (by first | assumption | decide +kernel) (by decide +kernel) ⟨rfl, rfl, rfl, rfl, rfl, by decide +kernel⟩ ?hw ?hc
  case hw => w_witness2
  case hc =>
    refine L2.walk_ofE (l := PySem.Challenge.rw_beadlane_k22_patterns_judged) (n := 63) (k := 44) (x := "_law_script") (CX := BL.CXN) rfl (by decide) (by kernel_rfl) ⟨rfl, by decide, by decide⟩ ?F (fun _ _ _ _ z => z)
    intro w mg fa h Y G hmg0
    obtain ⟨K, KX, c⟩ := Y
    have hmg : mg ("law" : PySem.Str) = some (.ref fa) := by
      have e : (HandSHeadRun.topDef (OpenLaw.row PySem.Challenge.rw_beadlane_k22_patterns_judged).prog 23).name = ("law" : PySem.Str) := by kernel_rfl
      rw [← e]
      exact hmg0
    obtain ⟨fd, Fd⟩ := c.t.d.def_ 16 (d := Hd.d23) rfl
    have ee := hmg.symm.trans (He.glo_ok KX G (c.t.d.fact 16 (f := .glo "law") rfl))
    cases ee
    have b := L2.FunD.bindsA (ps := ["_law_script"]) Fd fun _ _ _ _ _ _ us hl => match us, hl with | [_], _ => rfl
    refine ⟨K, fd, BL.spLaw K 63, KX, fun s v => b s [v] rfl, fun H a ns hl ho hS => ⟨a, ns, rfl, hl, ho, hS, fun _ => rfl⟩, fun base _ _ => ?_⟩
    exact BL.law_ok (C := ⟨PySem.Challenge.pw_beadlane_k22_patterns_judged, w, K, mg, base⟩) (BL.fn_T Fd (C8.fnScope_by (by kernel_rfl)) (Lw.der_law (Hd.wd KX G c base) (Nat.le_refl _))) Lm.law_true
end part_Lh_k22
