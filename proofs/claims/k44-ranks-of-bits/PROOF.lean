import PyProof.Rows.All
import Wide.All
import OpenK.AllK
import Wide.FinOn
import HandS.ForMost
import HandS.ForExc
import HandS.CallSlots
import HandS.Rev
import HandS.Property
import HandS.TryOnly
import HandS.TupAny
import HandS.IsInst
import HandS.ExcIs
import PySem.Challenge.RW_textshards_k44_ranks_of_bits
set_option Elab.async false
set_option linter.all false
set_option maxRecDepth 100000
set_option maxHeartbeats 2000000
/-! Mi0: plain values, cells, stores; how they stand for the values and objects of the hand layer; results; readings of plain machines. -/
namespace Mi
open PySem L2

/-- a plain value: tuples by their items, what changes by its place in the store -/
inductive IV where
  | non
  | bl (b : Bool)
  | int (i : Int)
  | str (s : List Nat)
  | tup (xs : List IV)
  | loc (n : Nat)
  | ro (xs : List IV)

mutual
def IV.dec : (a b : IV) → Decidable (a = b)
  | .non, .non => .isTrue rfl
  | .non, .bl _ => .isFalse (fun h => nomatch h)
  | .non, .int _ => .isFalse (fun h => nomatch h)
  | .non, .str _ => .isFalse (fun h => nomatch h)
  | .non, .tup _ => .isFalse (fun h => nomatch h)
  | .non, .loc _ => .isFalse (fun h => nomatch h)
  | .non, .ro _ => .isFalse (fun h => nomatch h)
  | .bl a, .bl b => if h : a = b then .isTrue (by rw [h]) else .isFalse (fun q => h (IV.bl.inj q))
  | .bl _, .non => .isFalse (fun h => nomatch h)
  | .bl _, .int _ => .isFalse (fun h => nomatch h)
  | .bl _, .str _ => .isFalse (fun h => nomatch h)
  | .bl _, .tup _ => .isFalse (fun h => nomatch h)
  | .bl _, .loc _ => .isFalse (fun h => nomatch h)
  | .bl _, .ro _ => .isFalse (fun h => nomatch h)
  | .int a, .int b => if h : a = b then .isTrue (by rw [h]) else .isFalse (fun q => h (IV.int.inj q))
  | .int _, .non => .isFalse (fun h => nomatch h)
  | .int _, .bl _ => .isFalse (fun h => nomatch h)
  | .int _, .str _ => .isFalse (fun h => nomatch h)
  | .int _, .tup _ => .isFalse (fun h => nomatch h)
  | .int _, .loc _ => .isFalse (fun h => nomatch h)
  | .int _, .ro _ => .isFalse (fun h => nomatch h)
  | .str a, .str b => if h : a = b then .isTrue (by rw [h]) else .isFalse (fun q => h (IV.str.inj q))
  | .str _, .non => .isFalse (fun h => nomatch h)
  | .str _, .bl _ => .isFalse (fun h => nomatch h)
  | .str _, .int _ => .isFalse (fun h => nomatch h)
  | .str _, .tup _ => .isFalse (fun h => nomatch h)
  | .str _, .loc _ => .isFalse (fun h => nomatch h)
  | .str _, .ro _ => .isFalse (fun h => nomatch h)
  | .tup a, .tup b => match IV.decs a b with
    | .isTrue h => .isTrue (by rw [h])
    | .isFalse h => .isFalse (fun q => h (IV.tup.inj q))
  | .tup _, .non => .isFalse (fun h => nomatch h)
  | .tup _, .bl _ => .isFalse (fun h => nomatch h)
  | .tup _, .int _ => .isFalse (fun h => nomatch h)
  | .tup _, .str _ => .isFalse (fun h => nomatch h)
  | .tup _, .loc _ => .isFalse (fun h => nomatch h)
  | .tup _, .ro _ => .isFalse (fun h => nomatch h)
  | .loc a, .loc b => if h : a = b then .isTrue (by rw [h]) else .isFalse (fun q => h (IV.loc.inj q))
  | .loc _, .non => .isFalse (fun h => nomatch h)
  | .loc _, .bl _ => .isFalse (fun h => nomatch h)
  | .loc _, .int _ => .isFalse (fun h => nomatch h)
  | .loc _, .str _ => .isFalse (fun h => nomatch h)
  | .loc _, .tup _ => .isFalse (fun h => nomatch h)
  | .loc _, .ro _ => .isFalse (fun h => nomatch h)
  | .ro a, .ro b => match IV.decs a b with
    | .isTrue h => .isTrue (by rw [h])
    | .isFalse h => .isFalse (fun q => h (IV.ro.inj q))
  | .ro _, .non => .isFalse (fun h => nomatch h)
  | .ro _, .bl _ => .isFalse (fun h => nomatch h)
  | .ro _, .int _ => .isFalse (fun h => nomatch h)
  | .ro _, .str _ => .isFalse (fun h => nomatch h)
  | .ro _, .tup _ => .isFalse (fun h => nomatch h)
  | .ro _, .loc _ => .isFalse (fun h => nomatch h)
def IV.decs : (a b : List IV) → Decidable (a = b)
  | [], [] => .isTrue rfl
  | [], _ :: _ => .isFalse (fun h => nomatch h)
  | _ :: _, [] => .isFalse (fun h => nomatch h)
  | a :: as, b :: bs => match IV.dec a b with
    | .isFalse h => .isFalse (fun q => h (List.cons.inj q).1)
    | .isTrue h => match IV.decs as bs with
      | .isTrue g => .isTrue (by rw [h, g])
      | .isFalse g => .isFalse (fun q => g (List.cons.inj q).2)
end
instance : DecidableEq IV := IV.dec

/-- what stands at a place of the store -/
inductive Cell where
  | lst (xs : List IV)
  | dk (kvs : List (IV × IV))
  | dt (kvs : List (IV × IV))
  | ins (c : Nat) (fs : List (Nat × IV))
  | lk (c : Cell)

def Cell.dec : (a b : Cell) → Decidable (a = b)
  | .lst a, .lst b => if h : a = b then .isTrue (by rw [h]) else .isFalse (fun q => h (Cell.lst.inj q))
  | .lst _, .dk _ => .isFalse (fun h => nomatch h)
  | .lst _, .dt _ => .isFalse (fun h => nomatch h)
  | .lst _, .ins _ _ => .isFalse (fun h => nomatch h)
  | .lst _, .lk _ => .isFalse (fun h => nomatch h)
  | .dk _, .lst _ => .isFalse (fun h => nomatch h)
  | .dk a, .dk b => if h : a = b then .isTrue (by rw [h]) else .isFalse (fun q => h (Cell.dk.inj q))
  | .dk _, .dt _ => .isFalse (fun h => nomatch h)
  | .dk _, .ins _ _ => .isFalse (fun h => nomatch h)
  | .dk _, .lk _ => .isFalse (fun h => nomatch h)
  | .dt _, .lst _ => .isFalse (fun h => nomatch h)
  | .dt _, .dk _ => .isFalse (fun h => nomatch h)
  | .dt a, .dt b => if h : a = b then .isTrue (by rw [h]) else .isFalse (fun q => h (Cell.dt.inj q))
  | .dt _, .ins _ _ => .isFalse (fun h => nomatch h)
  | .dt _, .lk _ => .isFalse (fun h => nomatch h)
  | .ins _ _, .lst _ => .isFalse (fun h => nomatch h)
  | .ins _ _, .dk _ => .isFalse (fun h => nomatch h)
  | .ins _ _, .dt _ => .isFalse (fun h => nomatch h)
  | .ins c a, .ins d b => if h : c = d ∧ a = b then .isTrue (by rw [h.1, h.2]) else .isFalse (fun q => h (Cell.ins.inj q))
  | .ins _ _, .lk _ => .isFalse (fun h => nomatch h)
  | .lk _, .lst _ => .isFalse (fun h => nomatch h)
  | .lk _, .dk _ => .isFalse (fun h => nomatch h)
  | .lk _, .dt _ => .isFalse (fun h => nomatch h)
  | .lk _, .ins _ _ => .isFalse (fun h => nomatch h)
  | .lk a, .lk b => match Cell.dec a b with
    | .isTrue h => .isTrue (by rw [h])
    | .isFalse h => .isFalse (fun q => h (Cell.lk.inj q))
instance : DecidableEq Cell := Cell.dec

abbrev Store := List Cell
abbrev Slots := List (Option IV)

mutual
/-- no place from n on is named -/
def IV.und (n : Nat) : IV → Bool
  | .loc k => decide (k < n)
  | .tup xs => IV.unds n xs
  | .ro xs => IV.unds n xs
  | .non => true
  | .bl _ => true
  | .int _ => true
  | .str _ => true
def IV.unds (n : Nat) : List IV → Bool
  | [] => true
  | x :: xs => IV.und n x && IV.unds n xs
end

/-- the program's names: fields, own classes, error classes -/
structure G where
  K : PySem.W.Frag
  fld : List Str
  fnd : fld.Nodup
  cls : List Addr
  exc : List Addr

/-- a tuple, a list that stands still -/
def TupAt (K : PySem.W.Frag) (ρ : List Addr) (H : Hp) (a : Addr) (vs : List V) : Prop := (a ∉ ρ ∧ Rd H a (.tup vs)) ∨ SqT K (fun _ => none) a vs
def LstAt (K : PySem.W.Frag) (ρ : List Addr) (H : Hp) (a : Addr) (vs : List V) : Prop := (a ∉ ρ ∧ Rd H a (.lst vs)) ∨ SqL K (fun _ => none) a vs
theorem TupAt.sq {K : PySem.W.Frag} {ρ : List Addr} {H : Hp} {a : Addr} {vs : List V} (h : TupAt K ρ H a vs) : SqT K H a vs := by
  rcases h with ⟨_, h⟩ | (h | ⟨_, h⟩) | h
  · exact .inl h
  · cases h
  · cases h
  · exact .inr h
theorem LstAt.sq {K : PySem.W.Frag} {ρ : List Addr} {H : Hp} {a : Addr} {vs : List V} (h : LstAt K ρ H a vs) : SqL K H a vs := by
  rcases h with ⟨_, h⟩ | (h | ⟨_, h⟩) | h
  · exact .inl h
  · cases h
  · cases h
  · exact .inr h
section
variable (g : G) (ρ : List Addr) (H : Hp)
mutual
def RepV : IV → V → Prop
  | .non, v => v = .non
  | .bl b, v => v = .bl b
  | .int i, v => v = .int i
  | .str s, v => v = .str ⟨s.toArray⟩
  | .tup xs, v => ∃ a vs, v = .ref a ∧ TupAt g.K ρ H a vs ∧ RepVs xs vs
  | .loc n, v => ∃ a, v = .ref a ∧ ρ[n]? = some a
  | .ro xs, v => ∃ a vs, v = .ref a ∧ LstAt g.K ρ H a vs ∧ RepVs xs vs
def RepVs : List IV → List V → Prop
  | [], vs => vs = []
  | x :: xs, vs => ∃ v r, vs = v :: r ∧ RepV x v ∧ RepVs xs r
end
/-- keys: ints, texts -/
def RepK : IV → Key → Prop
  | .int i, k => k = .inl i
  | .str s, k => k = .inr ⟨s.toArray⟩
  | _, _ => False
def RepKs : List IV → List Key → Prop
  | [], ks => ks = []
  | x :: xs, ks => ∃ k r, ks = k :: r ∧ RepK x k ∧ RepKs xs r
def RepT : IV → List Key → Prop
  | .tup xs, ks => RepKs xs ks
  | _, _ => False
def RepD (rk : IV → κ → Prop) : List (IV × IV) → List (κ × V) → Prop
  | [], ks => ks = []
  | p :: xs, ks => ∃ k v r, ks = (k, v) :: r ∧ rk p.1 k ∧ RepV g ρ H p.2 v ∧ RepD rk xs r
def RepF : List (Nat × IV) → List (Str × V) → Prop
  | [], ks => ks = []
  | p :: xs, ks => ∃ k v r, ks = (k, v) :: r ∧ g.fld[p.1]? = some k ∧ RepV g ρ H p.2 v ∧ RepF xs r
def RepC : Cell → HO → Prop
  | .lst xs, o => ∃ vs, o = .lst vs ∧ RepVs g ρ H xs vs
  | .dk kvs, o => ∃ ks, o = .dK ks ∧ RepD g ρ H RepK kvs ks
  | .dt kvs, o => ∃ ks, o = .dT ks ∧ RepD g ρ H RepT kvs ks
  | .ins c fs, o => ∃ C dx ks, o = .ins C dx ks ∧ g.cls[c]? = some C ∧ RepF g ρ H fs ks
  | .lk c, o => ∃ ob u, o = .frz ob u ∧ RepC c u
end

/-- the store stands in the heap -/
structure StR (g : G) (ρ : List Addr) (st : Store) (H : Hp) : Prop where
  len : ρ.length = st.length
  nd : ρ.Nodup
  cell : ∀ (n : Nat) (a : Addr) (c : Cell), ρ[n]? = some a → st[n]? = some c → ∃ o, H a = some o ∧ RepC g ρ H c o

/-- the heap went on: outside of the store's places nothing changed -/
structure Ext (ρ : List Addr) (H : Hp) (ρ' : List Addr) (H' : Hp) : Prop where
  pre : ∃ nw, ρ' = ρ ++ nw ∧ ∀ a ∈ nw, H a = none
  keep : ∀ a o, H a = some o → a ∉ ρ → H' a = some o
  live : ∀ a o, H a = some o → ∃ o', H' a = some o'

theorem Ext.refl (ρ : List Addr) (H : Hp) : Ext ρ H ρ H := ⟨⟨[], by simp, fun _ h => nomatch h⟩, fun _ _ h _ => h, fun _ o h => ⟨o, h⟩⟩
theorem Ext.back {ρ ρ' H H'} (e : Ext ρ H ρ' H') {a : Addr} (h : H' a = none) : H a = none := by
  cases q : H a with
  | none => rfl
  | some o =>
    obtain ⟨o', z⟩ := e.live a o q
    rw [h] at z; cases z
theorem Ext.trans {ρ ρ1 ρ2 H H1 H2} (a : Ext ρ H ρ1 H1) (b : Ext ρ1 H1 ρ2 H2) : Ext ρ H ρ2 H2 := by
  obtain ⟨n1, e1, f1⟩ := a.pre
  obtain ⟨n2, e2, f2⟩ := b.pre
  refine ⟨⟨n1 ++ n2, by rw [e2, e1, List.append_assoc], fun x hx => ?_⟩, fun x o hx hn => ?_, fun x o hx => ?_⟩
  · rcases List.mem_append.mp hx with h | h
    · exact f1 x h
    · exact a.back (f2 x h)
  · refine b.keep x o (a.keep x o hx hn) ?_
    rw [e1]
    intro z
    rcases List.mem_append.mp z with h | h
    · exact hn h
    · have := f1 x h
      rw [hx] at this; cases this
  · obtain ⟨o1, h1⟩ := a.live x o hx
    exact b.live x o1 h1
theorem Ext.out {ρ ρ' H H'} (e : Ext ρ H ρ' H') {a : Addr} {o : HO} (h : H a = some o) (n : a ∉ ρ) : a ∉ ρ' := by
  obtain ⟨n1, e1, f1⟩ := e.pre
  rw [e1]
  intro z
  rcases List.mem_append.mp z with h' | h'
  · exact n h'
  · have := f1 a h'
    rw [h] at this; cases this
theorem Ext.get {ρ ρ' H H'} (e : Ext ρ H ρ' H') {n : Nat} {a : Addr} (h : ρ[n]? = some a) : ρ'[n]? = some a := by
  obtain ⟨n1, e1, _⟩ := e.pre
  rw [e1, List.getElem?_append_left (List.getElem?_eq_some_iff.mp h).1]
  exact h

theorem Rd.ext {ρ ρ' H H'} (e : Ext ρ H ρ' H') {a : Addr} {u : HO} (n : a ∉ ρ) (h : Rd H a u) : a ∉ ρ' ∧ Rd H' a u := by
  rcases h with h | ⟨o, h⟩
  · exact ⟨e.out h n, .inl (e.keep _ _ h n)⟩
  · exact ⟨e.out h n, .inr ⟨o, e.keep _ _ h n⟩⟩
theorem TupAt.ext {K : PySem.W.Frag} {ρ ρ' H H'} (e : Ext ρ H ρ' H') {a : Addr} {vs : List V} (h : TupAt K ρ H a vs) : TupAt K ρ' H' a vs := by
  rcases h with ⟨n, h⟩ | h
  · exact .inl (Rd.ext e n h)
  · exact .inr h
theorem LstAt.ext {K : PySem.W.Frag} {ρ ρ' H H'} (e : Ext ρ H ρ' H') {a : Addr} {vs : List V} (h : LstAt K ρ H a vs) : LstAt K ρ' H' a vs := by
  rcases h with ⟨n, h⟩ | h
  · exact .inl (Rd.ext e n h)
  · exact .inr h
section
variable {g : G} {ρ ρ' : List Addr} {H H' : Hp}
mutual
theorem RepV.ext (e : Ext ρ H ρ' H') : ∀ {x : IV} {v : V}, RepV g ρ H x v → RepV g ρ' H' x v
  | .non, _, h => h
  | .bl _, _, h => h
  | .int _, _, h => h
  | .str _, _, h => h
  | .tup xs, v, h => by
    obtain ⟨a, vs, h1, h2, h3⟩ := h
    exact ⟨a, vs, h1, h2.ext e, RepVs.ext e h3⟩
  | .loc n, v, h => by
    obtain ⟨a, h1, h2⟩ := h
    exact ⟨a, h1, e.get h2⟩
  | .ro xs, v, h => by
    obtain ⟨a, vs, h1, h2, h3⟩ := h
    exact ⟨a, vs, h1, h2.ext e, RepVs.ext e h3⟩
theorem RepVs.ext (e : Ext ρ H ρ' H') : ∀ {xs : List IV} {vs : List V}, RepVs g ρ H xs vs → RepVs g ρ' H' xs vs
  | [], _, h => h
  | x :: xs, vs, h => by
    obtain ⟨v, r, h1, h2, h3⟩ := h
    exact ⟨v, r, h1, RepV.ext e h2, RepVs.ext e h3⟩
end
theorem RepD.ext {κ : Type} {rk : IV → κ → Prop} (e : Ext ρ H ρ' H') : ∀ {xs : List (IV × IV)} {ks : List (κ × V)}, RepD g ρ H rk xs ks → RepD g ρ' H' rk xs ks
  | [], _, h => h
  | p :: xs, ks, h => by
    obtain ⟨k, v, r, h1, h2, h3, h4⟩ := h
    exact ⟨k, v, r, h1, h2, h3.ext e, RepD.ext e h4⟩
theorem RepF.ext (e : Ext ρ H ρ' H') : ∀ {xs : List (Nat × IV)} {ks : List (Str × V)}, RepF g ρ H xs ks → RepF g ρ' H' xs ks
  | [], _, h => h
  | p :: xs, ks, h => by
    obtain ⟨k, v, r, h1, h2, h3, h4⟩ := h
    exact ⟨k, v, r, h1, h2, h3.ext e, RepF.ext e h4⟩
theorem RepC.ext (e : Ext ρ H ρ' H') : ∀ {c : Cell} {o : HO}, RepC g ρ H c o → RepC g ρ' H' c o
  | .lst xs, _, h => by
    obtain ⟨vs, h1, h2⟩ := h
    exact ⟨vs, h1, h2.ext e⟩
  | .dk _, _, h => by
    obtain ⟨vs, h1, h2⟩ := h
    exact ⟨vs, h1, h2.ext e⟩
  | .dt _, _, h => by
    obtain ⟨vs, h1, h2⟩ := h
    exact ⟨vs, h1, h2.ext e⟩
  | .ins _ _, _, h => by
    obtain ⟨C, dx, ks, h1, h2, h3⟩ := h
    exact ⟨C, dx, ks, h1, h2, h3.ext e⟩
  | .lk c, _, h => by
    obtain ⟨ob, u, h1, h2⟩ := h
    exact ⟨ob, u, h1, RepC.ext e h2⟩

/-! ### how the heap goes on -/
/-- a new object that is not a place of the store -/
theorem Ext.new {p : Addr} {o : HO} (h : H p = none) : Ext ρ H ρ (upd H p o) := by
  refine ⟨⟨[], by simp, fun _ h => nomatch h⟩, fun a u e _ => ?_, fun a u e => ?_⟩
  · rw [upd_ne (ne_of_none e h)]; exact e
  · rw [upd_ne (ne_of_none e h)]; exact ⟨u, e⟩
/-- a new place -/
theorem Ext.lay {p : Addr} {o : HO} (h : H p = none) : Ext ρ H (ρ ++ [p]) (upd H p o) := by
  refine ⟨⟨[p], rfl, fun a z => ?_⟩, fun a u e _ => ?_, fun a u e => ?_⟩
  · rw [List.mem_singleton.mp z]; exact h
  · rw [upd_ne (ne_of_none e h)]; exact e
  · rw [upd_ne (ne_of_none e h)]; exact ⟨u, e⟩
/-- a place is written -/
theorem Ext.put {p : Addr} {o : HO} (h : p ∈ ρ) : Ext ρ H ρ (upd H p o) := by
  refine ⟨⟨[], by simp, fun _ h => nomatch h⟩, fun a u e n => ?_, fun a u e => ?_⟩
  · rw [upd_ne (fun z => n (by rw [z]; exact h))]; exact e
  · by_cases z : a = p
    · rw [z, upd_same]; exact ⟨o, rfl⟩
    · rw [upd_ne z]; exact ⟨u, e⟩
variable {st : Store}
theorem StR.mem_live (S : StR g ρ st H) {a : Addr} (h : a ∈ ρ) : ∃ o, H a = some o := by
  obtain ⟨n, hn, e⟩ := List.getElem_of_mem h
  obtain ⟨o, h1, _⟩ := S.cell n a (st[n]'(by rw [← S.len]; exact hn)) (by rw [List.getElem?_eq_getElem hn, e]) (List.getElem?_eq_getElem _)
  exact ⟨o, h1⟩
theorem StR.out (S : StR g ρ st H) {p : Addr} (h : H p = none) : p ∉ ρ := fun z => by
  obtain ⟨o, e⟩ := S.mem_live z
  rw [h] at e; cases e
/-- the places as they were, in a heap that keeps them -/
theorem StR.same (S : StR g ρ st H) (e : Ext ρ H ρ H') (k : ∀ a ∈ ρ, H' a = H a) : StR g ρ st H' :=
  ⟨S.len, S.nd, fun n a c h1 h2 => by
    obtain ⟨o, h3, h4⟩ := S.cell n a c h1 h2
    exact ⟨o, by rw [k a (List.mem_of_getElem? h1)]; exact h3, h4.ext e⟩⟩
theorem StR.new (S : StR g ρ st H) {p : Addr} {o : HO} (h : H p = none) : StR g ρ st (upd H p o) :=
  S.same (Ext.new h) fun a ha => upd_ne fun z => S.out h (by rw [← z]; exact ha)
theorem StR.lay (S : StR g ρ st H) {p : Addr} {o : HO} {c : Cell} (h : H p = none) (r : RepC g ρ H c o) : StR g (ρ ++ [p]) (st ++ [c]) (upd H p o) := by
  refine ⟨by rw [List.length_append, List.length_append, S.len]; rfl, ?_, fun n a d h1 h2 => ?_⟩
  · refine List.nodup_append.mpr ⟨S.nd, by simp, fun a ha b hb e => ?_⟩
    rw [List.mem_singleton.mp hb] at e
    exact S.out h (by rw [← e]; exact ha)
  · by_cases hn : n < ρ.length
    · rw [List.getElem?_append_left hn] at h1
      rw [List.getElem?_append_left (by rw [← S.len]; exact hn)] at h2
      obtain ⟨o', h3, h4⟩ := S.cell n a d h1 h2
      exact ⟨o', by rw [upd_ne (ne_of_none h3 h)]; exact h3, h4.ext (Ext.lay h)⟩
    · rw [List.getElem?_append_right (by omega)] at h1
      rw [List.getElem?_append_right (by rw [← S.len]; omega)] at h2
      have e : n - ρ.length = 0 := by
        have := (List.getElem?_eq_some_iff.mp h1).1
        simp at this; omega
      rw [e] at h1
      rw [← S.len, e] at h2
      simp at h1 h2
      subst h1; subst h2
      exact ⟨o, upd_same, r.ext (Ext.lay h)⟩
theorem StR.put (S : StR g ρ st H) {n : Nat} {p : Addr} {o : HO} {c : Cell} (hp : ρ[n]? = some p) (r : RepC g ρ H c o) : StR g ρ (st.set n c) (upd H p o) := by
  have hm : p ∈ ρ := List.mem_of_getElem? hp
  refine ⟨by rw [List.length_set]; exact S.len, S.nd, fun m a d h1 h2 => ?_⟩
  by_cases hn : m = n
  · subst hn
    rw [hp] at h1
    cases h1
    rw [List.getElem?_set_self (by rw [← S.len]; exact (List.getElem?_eq_some_iff.mp hp).1)] at h2
    cases h2
    exact ⟨o, upd_same, r.ext (Ext.put hm)⟩
  · rw [List.getElem?_set_ne (Ne.symm hn)] at h2
    obtain ⟨o', h3, h4⟩ := S.cell m a d h1 h2
    refine ⟨o', ?_, h4.ext (Ext.put hm)⟩
    rw [upd_ne]
    · exact h3
    · intro z
      subst z
      obtain ⟨l1, e1⟩ := List.getElem?_eq_some_iff.mp h1
      obtain ⟨l2, e2⟩ := List.getElem?_eq_some_iff.mp hp
      exact hn ((List.getElem_inj S.nd).mp (e1.trans e2.symm))

/-! ### forgetting the last places -/
theorem TupAt.fewer {K : PySem.W.Frag} {a : Addr} {vs : List V} {n : Nat} (h : TupAt K ρ H a vs) : TupAt K (ρ.take n) H a vs := by
  rcases h with ⟨m, h⟩ | h
  · exact .inl ⟨fun z => m (List.mem_of_mem_take z), h⟩
  · exact .inr h
theorem LstAt.fewer {K : PySem.W.Frag} {a : Addr} {vs : List V} {n : Nat} (h : LstAt K ρ H a vs) : LstAt K (ρ.take n) H a vs := by
  rcases h with ⟨m, h⟩ | h
  · exact .inl ⟨fun z => m (List.mem_of_mem_take z), h⟩
  · exact .inr h
mutual
theorem RepV.fewer {n : Nat} : ∀ {x : IV} {v : V}, x.und n = true → RepV g ρ H x v → RepV g (ρ.take n) H x v
  | .non, _, _, h => h
  | .bl _, _, _, h => h
  | .int _, _, _, h => h
  | .str _, _, _, h => h
  | .tup xs, v, b, h => by
    obtain ⟨a, vs, h1, h2, h3⟩ := h
    unfold IV.und at b
    exact ⟨a, vs, h1, h2.fewer, RepVs.fewer b h3⟩
  | .loc k, v, b, h => by
    obtain ⟨a, h1, h2⟩ := h
    unfold IV.und at b
    exact ⟨a, h1, by rw [List.getElem?_take_of_lt (of_decide_eq_true b)]; exact h2⟩
  | .ro xs, v, b, h => by
    obtain ⟨a, vs, h1, h2, h3⟩ := h
    unfold IV.und at b
    exact ⟨a, vs, h1, h2.fewer, RepVs.fewer b h3⟩
theorem RepVs.fewer {n : Nat} : ∀ {xs : List IV} {vs : List V}, IV.unds n xs = true → RepVs g ρ H xs vs → RepVs g (ρ.take n) H xs vs
  | [], _, _, h => h
  | x :: xs, vs, b, h => by
    obtain ⟨v, r, h1, h2, h3⟩ := h
    unfold IV.unds at b
    rw [Bool.and_eq_true] at b
    exact ⟨v, r, h1, RepV.fewer b.1 h2, RepVs.fewer b.2 h3⟩
end
mutual
theorem RepV.und : ∀ {x : IV} {v : V}, RepV g ρ H x v → x.und ρ.length = true
  | .non, _, _ => rfl
  | .bl _, _, _ => rfl
  | .int _, _, _ => rfl
  | .str _, _, _ => rfl
  | .tup xs, v, h => by
    obtain ⟨a, vs, h1, h2, h3⟩ := h
    unfold IV.und
    exact RepVs.unds h3
  | .loc k, v, h => by
    obtain ⟨a, h1, h2⟩ := h
    unfold IV.und
    exact decide_eq_true (List.getElem?_eq_some_iff.mp h2).1
  | .ro xs, v, h => by
    obtain ⟨a, vs, h1, h2, h3⟩ := h
    unfold IV.und
    exact RepVs.unds h3
theorem RepVs.unds : ∀ {xs : List IV} {vs : List V}, RepVs g ρ H xs vs → IV.unds ρ.length xs = true
  | [], _, _ => rfl
  | x :: xs, vs, h => by
    obtain ⟨v, r, h1, h2, h3⟩ := h
    unfold IV.unds
    rw [Bool.and_eq_true]
    exact ⟨RepV.und h2, RepVs.unds h3⟩
end
theorem RepD.fewer {κ : Type} {rk : IV → κ → Prop} {ρ₀ : List Addr} {H₀ : Hp} : ∀ {xs : List (IV × IV)} {k₀ ks : List (κ × V)}, RepD g ρ₀ H₀ rk xs k₀ → RepD g ρ H rk xs ks → RepD g (ρ.take ρ₀.length) H rk xs ks
  | [], _, _, _, h => h
  | p :: xs, k0, ks, h0, h => by
    obtain ⟨k, v, r, h1, h2, h3, h4⟩ := h
    obtain ⟨k', v', r', g1, g2, g3, g4⟩ := h0
    exact ⟨k, v, r, h1, h2, h3.fewer g3.und, RepD.fewer g4 h4⟩
theorem RepF.fewer {ρ₀ : List Addr} {H₀ : Hp} : ∀ {xs : List (Nat × IV)} {k₀ ks : List (Str × V)}, RepF g ρ₀ H₀ xs k₀ → RepF g ρ H xs ks → RepF g (ρ.take ρ₀.length) H xs ks
  | [], _, _, _, h => h
  | p :: xs, k0, ks, h0, h => by
    obtain ⟨k, v, r, h1, h2, h3, h4⟩ := h
    obtain ⟨k', v', r', g1, g2, g3, g4⟩ := h0
    exact ⟨k, v, r, h1, h2, h3.fewer g3.und, RepF.fewer g4 h4⟩
theorem RepC.fewer {ρ₀ : List Addr} {H₀ : Hp} : ∀ {c : Cell} {o₀ o : HO}, RepC g ρ₀ H₀ c o₀ → RepC g ρ H c o → RepC g (ρ.take ρ₀.length) H c o
  | .lst xs, _, _, h0, h => by
    obtain ⟨vs, h1, h2⟩ := h
    obtain ⟨vs', g1, g2⟩ := h0
    exact ⟨vs, h1, h2.fewer g2.unds⟩
  | .dk _, _, _, h0, h => by
    obtain ⟨vs, h1, h2⟩ := h
    obtain ⟨vs', g1, g2⟩ := h0
    exact ⟨vs, h1, g2.fewer h2⟩
  | .dt _, _, _, h0, h => by
    obtain ⟨vs, h1, h2⟩ := h
    obtain ⟨vs', g1, g2⟩ := h0
    exact ⟨vs, h1, g2.fewer h2⟩
  | .ins _ _, _, _, h0, h => by
    obtain ⟨C, dx, ks, h1, h2, h3⟩ := h
    obtain ⟨C', dx', ks', g1, g2, g3⟩ := h0
    exact ⟨C, dx, ks, h1, h2, g3.fewer h3⟩
  | .lk c, _, _, h0, h => by
    obtain ⟨ob, u, h1, h2⟩ := h
    obtain ⟨ob', u', g1, g2⟩ := h0
    exact ⟨ob, u, h1, RepC.fewer g2 h2⟩
/-- the places of an earlier store, where their content is as it was -/
theorem StR.fewer {st' : Store} (S : StR g ρ st H) (S' : StR g ρ' st' H') (e : Ext ρ H ρ' H') (q : st'.take st.length = st) : StR g ρ st H' := by
  obtain ⟨nw, e1, _⟩ := e.pre
  have ht : ρ'.take ρ.length = ρ := by rw [e1]; simp
  refine ⟨S.len, S.nd, fun n a c h1 h2 => ?_⟩
  obtain ⟨o0, g1, g2⟩ := S.cell n a c h1 h2
  have hn : n < st.length := (List.getElem?_eq_some_iff.mp h2).1
  obtain ⟨o, h3, h4⟩ := S'.cell n a c (e.get h1) (by rw [← List.getElem?_take_of_lt hn, q]; exact h2)
  refine ⟨o, h3, ?_⟩
  have := RepC.fewer g2 h4
  rw [ht] at this
  exact this
theorem RepV.back {x : IV} {v : V} (e : Ext ρ H ρ' H') (u : x.und ρ.length = true) (h : RepV g ρ' H' x v) : RepV g ρ H' x v := by
  obtain ⟨nw, e1, _⟩ := e.pre
  have ht : ρ'.take ρ.length = ρ := by rw [e1]; simp
  have := RepV.fewer u h
  rw [ht] at this
  exact this
theorem Ext.fewer (e : Ext ρ H ρ' H') : Ext ρ H ρ H' := ⟨⟨[], by simp, fun _ h => nomatch h⟩, e.keep, e.live⟩
end
end Mi

set_option Elab.async false
set_option linter.all false
set_option maxRecDepth 100000
set_option maxHeartbeats 2000000
/-! Mi1: plain machines (results, sequencing), their readings, expressions. -/
namespace Mi
open PySem L2

/-- what a plain machine gives -/
inductive Res (α : Type) where
  | ok (v : α) (st : Store)
  | exc (c : Nat) (st : Store)
  | bad
abbrev MM (α : Type) := Slots → Store → Res α
abbrev ME := MM IV
abbrev MT := MM Bool
abbrev MA := MM (List IV)
def Res.andThen {α β : Type} (r : Res α) (f : α → Store → Res β) : Res β := match r with
  | .ok v st => f v st
  | .exc c st => .exc c st
  | .bad => .bad
@[simp] theorem Res.andThen_ok {α β : Type} (v : α) (st : Store) (f : α → Store → Res β) : (Res.ok v st).andThen f = f v st := rfl
@[simp] theorem Res.andThen_exc {α β : Type} (c : Nat) (st : Store) (f : α → Store → Res β) : (Res.exc c st).andThen f = .exc c st := rfl
@[simp] theorem Res.andThen_bad {α β : Type} (f : α → Store → Res β) : (Res.bad : Res α).andThen f = .bad := rfl
/-- forget what was laid, where nothing else changed -/
def gcV (st : Store) (r : Res IV) : Res IV := match r with
  | .ok v st' => if v.und st.length = true ∧ st'.take st.length = st then .ok v st else .ok v st'
  | .exc c st' => if st'.take st.length = st then .exc c st else .exc c st'
  | .bad => .bad
def gcB (st : Store) (r : Res Bool) : Res Bool := match r with
  | .ok v st' => if st'.take st.length = st then .ok v st else .ok v st'
  | .exc c st' => if st'.take st.length = st then .exc c st else .exc c st'
  | .bad => .bad

/-- slots -/
structure SlR (g : G) (ρ : List Addr) (H : Hp) (sl : Slots) (σ : St) : Prop where
  len : sl.length = σ.length
  get : ∀ (i : Nat) (x : IV), sl[i]? = some (some x) → ∃ v, σ[i]? = some (some v) ∧ RepV g ρ H x v
theorem SlR.ext {g : G} {ρ ρ' : List Addr} {H H' : Hp} {sl : Slots} {σ : St} (e : Ext ρ H ρ' H') (S : SlR g ρ H sl σ) : SlR g ρ' H' sl σ :=
  ⟨S.len, fun i x h => let ⟨v, h1, h2⟩ := S.get i x h; ⟨v, h1, h2.ext e⟩⟩
theorem SlR.set {g : G} {ρ : List Addr} {H : Hp} {sl : Slots} {σ : St} (S : SlR g ρ H sl σ) (i : Nat) {x : IV} {v : V} (r : RepV g ρ H x v) : SlR g ρ H (sl.set i (some x)) (σ.set i (some v)) := by
  refine ⟨by rw [List.length_set, List.length_set, S.len], fun j y h => ?_⟩
  by_cases hj : i = j
  · subst hj
    by_cases hl : i < sl.length
    · rw [List.getElem?_set_self hl] at h
      have e : x = y := Option.some.inj (Option.some.inj h)
      subst e
      exact ⟨v, by rw [List.getElem?_set_self (by rw [← S.len]; exact hl)], r⟩
    · rw [List.getElem?_eq_none (by rw [List.length_set]; omega)] at h
      cases h
  · rw [List.getElem?_set_ne hj] at h ⊢
    exact S.get j y h

/-- what is wanted of a result; W: of an exception -/
def want {α : Type} (g : G) (W : WX) (σ : St) (ρ : List Addr) (H : Hp) (P : α → Store → List Addr → Hp → Prop) : Res α → Prop
  | .ok v st' => ∀ ρ' H', Ext ρ H ρ' H' → StR g ρ' st' H' → P v st' ρ' H'
  | .exc c st' => ∀ ρ' H' C, Ext ρ H ρ' H' → StR g ρ' st' H' → g.exc[c]? = some C → W (.ref C) none σ H'
  | .bad => False
abbrev qE (g : G) (Q : VK) : IV → Store → List Addr → Hp → Prop := fun v _ ρ' H' => ∀ x, RepV g ρ' H' v x → Q x H'
abbrev qT (Q : Bool → Hp → Prop) : Bool → Store → List Addr → Hp → Prop := fun v _ _ H' => Q v H'
abbrev qA (g : G) (Q : List V → Hp → Prop) : List IV → Store → List Addr → Hp → Prop := fun v _ ρ' H' => ∀ x, RepVs g ρ' H' v x → Q x H'
/-- a reading of a plain machine -/
def rdE (g : G) (W : WX) (m : ME) : TE := fun σ H Q => ∃ ρ sl st, StR g ρ st H ∧ SlR g ρ H sl σ ∧ want g W σ ρ H (qE g Q) (m sl st)
def rdT (g : G) (W : WX) (m : MT) : TT := fun σ H Q => ∃ ρ sl st, StR g ρ st H ∧ SlR g ρ H sl σ ∧ want g W σ ρ H (qT Q) (m sl st)
def rdA (g : G) (W : WX) (m : MA) : TA := fun σ H Q => ∃ ρ sl st, StR g ρ st H ∧ SlR g ρ H sl σ ∧ want g W σ ρ H (qA g Q) (m sl st)

abbrev SE (X : Cx) (g : G) (W : WX) (e : Expr) (m : ME) : Prop := PE X e (rdE g W m)
abbrev SA (X : Cx) (g : G) (W : WX) (e : List Expr) (m : MA) : Prop := PA X e (rdA g W m)
abbrev SC (X : Cx) (g : G) (W : WX) (e : Expr) (m : MT) : Prop := PT X e (rdT g W m)

theorem PE.imp {X : Cx} {e : Expr} {t t' : TE} (h : PE X e t) (i : ∀ σ H Q, t' σ H Q → t σ H Q) : PE X e t' := ⟨fun pins s σ H Q I q => h.run pins s σ H Q I (i σ H Q q)⟩
theorem PT.imp {X : Cx} {e : Expr} {t t' : TT} (h : PT X e t) (i : ∀ σ H Q, t' σ H Q → t σ H Q) : PT X e t' := ⟨fun pins s σ H Q I q => h.run pins s σ H Q I (i σ H Q q)⟩
theorem PA.imp {X : Cx} {e : List Expr} {t t' : TA} (h : PA X e t) (i : ∀ σ H Q, t' σ H Q → t σ H Q) : PA X e t' := ⟨fun pos pins s σ H Q I q => h.run pos pins s σ H Q I (i σ H Q q)⟩
theorem PS.imp {X : Cx} {e : Stmt} {t t' : TS} (h : PS X e t) (i : ∀ D σ H, t' D σ H → t D σ H) : PS X e t' := ⟨fun pins s σ H D I q => h.run pins s σ H D I (i D σ H q)⟩
theorem PSs.imp {X : Cx} {e : List Stmt} {t t' : TS} (h : PSs X e t) (i : ∀ D σ H, t' D σ H → t D σ H) : PSs X e t' := ⟨fun pins s σ H D I q => h.run pins s σ H D I (i D σ H q)⟩
theorem PE.or {X : Cx} {e : Expr} {t t' : TE} (h : PE X e t) (h' : PE X e t') : PE X e (fun σ H Q => t σ H Q ∨ t' σ H Q) := ⟨fun pins s σ H Q I q => q.elim (h.run pins s σ H Q I) (h'.run pins s σ H Q I)⟩

section
variable {g : G} {W : WX} {ρ ρ1 : List Addr} {H H1 : Hp} {sl : Slots} {st : Store} {σ : St}
theorem want.later {α : Type} {P : α → Store → List Addr → Hp → Prop} {r : Res α} (e : Ext ρ H ρ1 H1) (h : want g W σ ρ H P r) : want g W σ ρ1 H1 P r := by
  cases r with
  | ok v st' => exact fun ρ' H' e' => h ρ' H' (e.trans e')
  | exc c st' => exact fun ρ' H' C e' => h ρ' H' C (e.trans e')
  | bad => exact h
theorem want.step {α β : Type} {P : β → Store → List Addr → Hp → Prop} {P' : α → Store → List Addr → Hp → Prop} {r : Res α} {f : α → Store → Res β} (h : want g W σ ρ H P (r.andThen f))
    (hk : ∀ v st1 ρ1 H1, Ext ρ H ρ1 H1 → StR g ρ1 st1 H1 → want g W σ ρ1 H1 P (f v st1) → P' v st1 ρ1 H1) : want g W σ ρ H P' r := by
  cases r with
  | ok v st' => exact fun ρ' H' e' S => hk v st' ρ' H' e' S (want.later e' h)
  | exc c st' => exact h
  | bad => exact h
/-- THE STEP: an expression's part is run, the rest is wanted of what it gave -/
theorem runE {β : Type} {m : ME} {f : IV → Store → Res β} {Q : VK} {P : β → Store → List Addr → Hp → Prop} (S : StR g ρ st H) (L : SlR g ρ H sl σ) (h : want g W σ ρ H P ((m sl st).andThen f))
    (hk : ∀ v st1 ρ1 H1 x, Ext ρ H ρ1 H1 → StR g ρ1 st1 H1 → SlR g ρ1 H1 sl σ → RepV g ρ1 H1 v x → want g W σ ρ1 H1 P (f v st1) → Q x H1) : rdE g W m σ H Q :=
  ⟨ρ, sl, st, S, L, want.step h fun v st1 ρ1 H1 e S1 w x r => hk v st1 ρ1 H1 x e S1 (L.ext e) r w⟩
theorem runA {β : Type} {m : MA} {f : List IV → Store → Res β} {Q : List V → Hp → Prop} {P : β → Store → List Addr → Hp → Prop} (S : StR g ρ st H) (L : SlR g ρ H sl σ) (h : want g W σ ρ H P ((m sl st).andThen f))
    (hk : ∀ v st1 ρ1 H1 x, Ext ρ H ρ1 H1 → StR g ρ1 st1 H1 → SlR g ρ1 H1 sl σ → RepVs g ρ1 H1 v x → want g W σ ρ1 H1 P (f v st1) → Q x H1) : rdA g W m σ H Q :=
  ⟨ρ, sl, st, S, L, want.step h fun v st1 ρ1 H1 e S1 w x r => hk v st1 ρ1 H1 x e S1 (L.ext e) r w⟩
theorem runT {β : Type} {m : MT} {f : Bool → Store → Res β} {Q : Bool → Hp → Prop} {P : β → Store → List Addr → Hp → Prop} (S : StR g ρ st H) (L : SlR g ρ H sl σ) (h : want g W σ ρ H P ((m sl st).andThen f))
    (hk : ∀ v st1 ρ1 H1, Ext ρ H ρ1 H1 → StR g ρ1 st1 H1 → SlR g ρ1 H1 sl σ → want g W σ ρ1 H1 P (f v st1) → Q v H1) : rdT g W m σ H Q :=
  ⟨ρ, sl, st, S, L, want.step h fun v st1 ρ1 H1 e S1 w => hk v st1 ρ1 H1 e S1 (L.ext e) w⟩
/-- forgetting what was laid keeps what is wanted -/
theorem want.gcE {Q : VK} {r : Res IV} (S : StR g ρ st H) (h : want g W σ ρ H (qE g Q) (gcV st r)) : want g W σ ρ H (qE g Q) r := by
  cases r with
  | bad => exact h
  | ok v st' =>
    by_cases c : v.und st.length = true ∧ st'.take st.length = st
    · simp only [gcV, if_pos c] at h
      intro ρ' H' e S' x r
      exact h ρ H' e.fewer (S.fewer S' e c.2) x (r.back e (by rw [S.len]; exact c.1))
    · simp only [gcV, if_neg c] at h
      exact h
  | exc k st' =>
    by_cases c : st'.take st.length = st
    · simp only [gcV, if_pos c] at h
      intro ρ' H' C e S' r
      exact h ρ H' C e.fewer (S.fewer S' e c) r
    · simp only [gcV, if_neg c] at h
      exact h
theorem want.gcT {Q : Bool → Hp → Prop} {r : Res Bool} (S : StR g ρ st H) (h : want g W σ ρ H (qT Q) (gcB st r)) : want g W σ ρ H (qT Q) r := by
  cases r with
  | bad => exact h
  | ok v st' =>
    by_cases c : st'.take st.length = st
    · simp only [gcB, if_pos c] at h
      intro ρ' H' e S'
      exact h ρ H' e.fewer (S.fewer S' e c)
    · simp only [gcB, if_neg c] at h
      exact h
  | exc k st' =>
    by_cases c : st'.take st.length = st
    · simp only [gcB, if_pos c] at h
      intro ρ' H' C e S' r
      exact h ρ H' C e.fewer (S.fewer S' e c) r
    · simp only [gcB, if_neg c] at h
      exact h
end

/-! ### names and constants -/
def mVar (i : Nat) : ME := fun sl st => match sl[i]? with
  | some (some v) => .ok v st
  | _ => .bad
def mC (v : IV) : ME := fun _ st => .ok v st
section
variable {X : Cx} {g : G} {W : WX}
theorem s_var (i : Nat) {x : Str} {pos : Pos} (hN : X.N[i]? = some x := by rfl) (hv : Vis X.env.scope x := by first | exact Or.inl rfl | exact Or.inr (Or.inl rfl) | exact Or.inr (Or.inr rfl)) (hd : (x == ("__debug__" : Str)) = false := by decide)
    (hcd : (x == ("__classdict__" : Str)) = false := by decide) : SE X g W (.Name x pos) (mVar i) := PE.imp (pe_var hN hv hd hcd) fun σ H Q ⟨ρ, sl, st, S, L, h⟩ => by
  cases e : sl[i]? with
  | none => simp [mVar, e, want] at h
  | some o =>
    cases o with
    | none => simp [mVar, e, want] at h
    | some v =>
      simp only [mVar, e, want] at h
      obtain ⟨x, h1, h2⟩ := L.get i v e
      exact ⟨x, h1, h ρ H (Ext.refl _ _) S x h2⟩
/-- a constant -/
theorem s_c {e : Expr} {v : V} {c : IV} (h : PE X e (tC v)) (r : ∀ ρ H, RepV g ρ H c v) : SE X g W e (mC c) := PE.imp h fun σ H Q ⟨ρ, sl, st, S, L, w⟩ =>
  w ρ H (Ext.refl _ _) S v (r ρ H)
theorem s_int {i j pos} : SE X g W (.Constant (.int i) j pos) (mC (.int i)) := s_c pe_int fun _ _ => by unfold RepV; rfl
theorem s_bl {i j pos} : SE X g W (.Constant (.bool i) j pos) (mC (.bl i)) := s_c pe_bl fun _ _ => by unfold RepV; rfl
theorem s_non {j pos} : SE X g W (.Constant .none j pos) (mC .non) := s_c pe_non fun _ _ => by unfold RepV; rfl
theorem s_str {x : Str} {l : List Nat} {j pos} (h : x.cps.toList = l := by rfl) : SE X g W (.Constant (.str x) j pos) (mC (.str l)) := s_c pe_str fun _ _ => by
  subst h
  unfold RepV
  cases x
  rfl
end

/-! ### operations by values -/
abbrev O2 := IV → IV → Store → Res IV
abbrev OC := List IV → Store → Res IV
/-- the reading of an operation on values -/
def rd2 (g : G) (o : O2) : R2 := fun x y H Q => ∃ ρ st a b, StR g ρ st H ∧ RepV g ρ H a x ∧ RepV g ρ H b y ∧ want g (fun _ _ _ _ => False) [] ρ H (qE g Q) (o a b st)
def rdC (g : G) (o : OC) : List V → Hp → VK → Prop := fun xs H Q => ∃ ρ st a, StR g ρ st H ∧ RepVs g ρ H a xs ∧ want g (fun _ _ _ _ => False) [] ρ H (qE g Q) (o a st)
/-- the operation raises nothing -/
def Calm2 (o : O2) : Prop := ∀ a b st c st', o a b st ≠ .exc c st'
def CalmC (o : OC) : Prop := ∀ a st c st', o a st ≠ .exc c st'
/-- an operation that raises is not carried -/
def calmR {α : Type} (r : Res α) : Res α := match r with
  | .ok v st => .ok v st
  | _ => .bad
@[simp] theorem calmR_ok {α : Type} (v : α) (st : Store) : calmR (Res.ok v st) = .ok v st := rfl
@[simp] theorem calmR_bad {α : Type} : calmR (Res.bad : Res α) = .bad := rfl
def mOp (o : O2) (a b : ME) : ME := fun sl st => gcV st ((a sl st).andThen fun x st1 => (b sl st1).andThen fun y st2 => calmR (o x y st2))
theorem want.calm {α : Type} {g : G} {W : WX} {σ : St} {ρ : List Addr} {H : Hp} {P : α → Store → List Addr → Hp → Prop} {r : Res α} (h : want g W σ ρ H P (calmR r)) : want g (fun _ _ _ _ => False) [] ρ H P r := by
  cases r with
  | ok v st => exact h
  | exc c st => exact False.elim h
  | bad => exact h
section
variable {X : Cx} {g : G} {W : WX} {a b : Expr} {ma mb : ME} {pos : Pos}
theorem tOp_of {o : O2} {σ : St} {H : Hp} {Q : VK} (h : rdE g W (mOp o ma mb) σ H Q) : tOp (rd2 g o) (rdE g W ma) (rdE g W mb) σ H Q := by
  obtain ⟨ρ, sl, st, S, L, w⟩ := h
  refine runE S L (want.gcE S w) fun v st1 ρ1 H1 x e1 S1 L1 r1 w1 => ?_
  refine runE S1 L1 w1 fun u st2 ρ2 H2 y e2 S2 L2 r2 w2 => ?_
  exact ⟨ρ2, st2, v, u, S2, r1.ext e2, r2, want.calm w2⟩
theorem s_op {op : Operator} {o : O2} (ho : OpR X (binaryOp op) (rd2 g o)) (ha : SE X g W a ma) (hb : SE X g W b mb) : SE X g W (.BinOp a op b pos) (mOp o ma mb) := PE.imp (pe_op ho ha hb) fun _ _ _ h => tOp_of h
theorem s_cmp {op : CmpOp} {o : O2} (ho : OpR X (compareOp op) (rd2 g o)) (ha : SE X g W a ma) (hb : SE X g W b mb) (hm : behindInMarks op b = false := by first | exact nomark _ | rfl) : SE X g W (.Compare a [op] [b] pos) (mOp o ma mb) := PE.imp (pe_cmpR ho ha hb hm) fun _ _ _ h => tOp_of h
theorem s_ix {o : O2} (ho : IxR X (rd2 g o)) (ha : SE X g W a ma) (hb : SE X g W b mb) (hs : PlainIx b := by exact fun _ _ => rfl) : SE X g W (.Subscript a b pos) (mOp o ma mb) := PE.imp (pe_ix ho ha hb hs) fun _ _ _ h => tOp_of h
/-- one operand -/
def mUn (o : IV → Store → Res IV) (a : ME) : ME := fun sl st => gcV st ((a sl st).andThen fun x st1 => calmR (o x st1))
def rd1 (g : G) (o : IV → Store → Res IV) : V → Hp → VK → Prop := fun x H Q => ∃ ρ st a, StR g ρ st H ∧ RepV g ρ H a x ∧ want g (fun _ _ _ _ => False) [] ρ H (qE g Q) (o a st)
theorem s_un {op : UnaryOp} {o : IV → Store → Res IV} (ho : UnR X (unaryOp op) (rd1 g o)) (ha : SE X g W a ma) : SE X g W (.UnaryOp op a pos) (mUn o ma) := PE.imp (pe_un ho ha) fun σ H Q ⟨ρ, sl, st, S, L, w⟩ =>
  runE S L (want.gcE S w) fun v st1 ρ1 H1 x e1 S1 L1 r1 w1 => ⟨ρ1, st1, v, S1, r1, want.calm w1⟩
end

/-! ### arguments -/
def aNil : MA := fun _ st => .ok [] st
def aCons (m : ME) (r : MA) : MA := fun sl st => (m sl st).andThen fun x st1 => (r sl st1).andThen fun xs st2 => .ok (x :: xs) st2
section
variable {X : Cx} {g : G} {W : WX} {e : Expr} {es : List Expr} {m : ME} {r : MA}
theorem s_nil : SA X g W [] aNil := PA.imp pa_nil fun σ H Q ⟨ρ, sl, st, S, L, w⟩ => w ρ H (Ext.refl _ _) S [] (by unfold RepVs; rfl)
theorem s_cons (h : SE X g W e m) (hr : SA X g W es r) (hs : starEach (e :: es) X.env = (false, eval e X.env) :: starEach es X.env := by rfl) : SA X g W (e :: es) (aCons m r) := PA.imp (pa_cons h hr hs) fun σ H Q ⟨ρ, sl, st, S, L, w⟩ =>
  runE S L w fun v st1 ρ1 H1 x e1 S1 L1 r1 w1 => runA S1 L1 w1 fun vs st2 ρ2 H2 xs e2 S2 L2 r2 w2 => w2 ρ2 H2 (Ext.refl _ _) S2 (x :: xs) (by unfold RepVs; exact ⟨x, xs, rfl, r1.ext e2, r2⟩)
/-- tuples and lists of written items -/
theorem RepVs.length {g : G} {ρ : List Addr} {H : Hp} : ∀ {xs : List IV} {vs : List V}, RepVs g ρ H xs vs → vs.length = xs.length
  | [], _, h => by unfold RepVs at h; subst h; rfl
  | x :: xs, vs, h => by
    unfold RepVs at h
    obtain ⟨v, r, rfl, _, h⟩ := h
    rw [List.length_cons, List.length_cons, RepVs.length h]
def tooLong (n : Nat) : Bool := !decide (n ≤ 16777216)
theorem notLong {n : Nat} (h : tooLong n = false) : n ≤ sizeLine := by
  unfold tooLong at h
  rw [sizeLine_eq]
  simpa using h
def mTup (a : MA) : ME := fun sl st => (a sl st).andThen fun xs st1 => if tooLong xs.length then .bad else .ok (.tup xs) st1
def mLst (a : MA) : ME := fun sl st => (a sl st).andThen fun xs st1 => if tooLong xs.length then .bad else .ok (.loc st1.length) (st1 ++ [.lst xs])
theorem s_tup {k : Nat} {pos : Pos} (h : SA X g W es r) : SE X g W (.Tuple es k pos) (mTup r) := PE.imp (pe_tup h) fun σ H Q ⟨ρ, sl, st, S, L, w⟩ =>
  runA S L w fun vs st1 ρ1 H1 xs e1 S1 L1 r1 w1 => by
    cases c : tooLong vs.length with
    | true => rw [if_pos c] at w1; exact False.elim w1
    | false =>
      rw [if_neg (by rw [c]; decide)] at w1
      refine ⟨by rw [r1.length]; exact notLong c, fun p hp => ?_⟩
      refine w1 ρ1 _ (Ext.new hp) (S1.new hp) (.ref p) ?_
      unfold RepV
      exact ⟨p, xs, rfl, .inl ⟨S1.out hp, .inl upd_same⟩, r1.ext (Ext.new hp)⟩
theorem s_lst {pos : Pos} (h : SA X g W es r) : SE X g W (.List es pos) (mLst r) := PE.imp (pe_lst h) fun σ H Q ⟨ρ, sl, st, S, L, w⟩ =>
  runA S L w fun vs st1 ρ1 H1 xs e1 S1 L1 r1 w1 => by
    cases c : tooLong vs.length with
    | true => rw [if_pos c] at w1; exact False.elim w1
    | false =>
      rw [if_neg (by rw [c]; decide)] at w1
      refine ⟨by rw [r1.length]; exact notLong c, fun p hp => ?_⟩
      refine w1 (ρ1 ++ [p]) _ (Ext.lay hp) (S1.lay hp (c := .lst vs) ⟨xs, rfl, r1⟩) (.ref p) ?_
      unfold RepV
      exact ⟨p, rfl, by rw [← S1.len, List.getElem?_concat_length]⟩
end

/-! ### built-ins by name -/
def mCall (o : OC) (a : MA) : ME := fun sl st => gcV st ((a sl st).andThen fun xs st1 => calmR (o xs st1))
section
variable {X : Cx} {g : G} {W : WX} {e : Expr} {es : List Expr} {r : MA} {x : Str} {p pos : Pos} {id T : String} {o : OC}
theorem tCB_of {σ : St} {H : Hp} {Q : VK} (h : rdE g W (mCall o r) σ H Q) : tCB (rdC g o) (rdA g W r) σ H Q := by
  obtain ⟨ρ, sl, st, S, L, w⟩ := h
  exact runA S L (want.gcE S w) fun v st1 ρ1 H1 x e1 S1 L1 r1 w1 => ⟨ρ1, st1, v, S1, r1, want.calm w1⟩
theorem s_callB (hc : CallR X (.builtin id) (rdC g o)) (hm : X.mg x = none) (ha : SA X g W (e :: es) r) (hg : Gl X x := by rfl) (hv : bootBuiltins x = some (.builtin id) := by decide +kernel) (hn : x ≠ "__name__" := by decide) (hdb : (x == ("__debug__" : Str)) = false := by decide)
    (he : starEach (e :: es) X.env = (false, eval e X.env) :: starEach es X.env := by rfl) (hpl : (backTo pos (starEach es X.env)).any (·.1) = false := by rfl) : SE X g W (.Call (.Name x p) (e :: es) [] pos) (mCall o r) :=
  PE.imp (pe_callB hc hg hm hv ha hn hdb he hpl) fun _ _ _ h => tCB_of h
theorem s_callTy (hc : CallR X (.type T) (rdC g o)) (hm : X.mg x = none) (ha : SA X g W (e :: es) r) (hg : Gl X x := by rfl) (hv : bootBuiltins x = some (.type T) := by decide +kernel) (hn : x ≠ "__name__" := by decide) (hdb : (x == ("__debug__" : Str)) = false := by decide)
    (he : starEach (e :: es) X.env = (false, eval e X.env) :: starEach es X.env := by rfl) (hpl : (backTo pos (starEach es X.env)).any (·.1) = false := by rfl) : SE X g W (.Call (.Name x p) (e :: es) [] pos) (mCall o r) :=
  PE.imp (pe_callTy hc hg hm hv ha hn hdb he hpl) fun _ _ _ h => tCB_of h
end
end Mi

set_option Elab.async false
set_option linter.all false
set_option maxRecDepth 100000
set_option maxHeartbeats 2000000
/-! Mi2: tests, targets, statements, loops, comprehensions. -/
namespace Mi
open PySem L2

/-! ### tests -/
/-- a truth value as a test -/
def mTest (m : ME) : MT := fun sl st => gcB st ((m sl st).andThen fun x st1 => match x with
  | .bl b => .ok b st1
  | _ => .bad)
def mAnd (a b : MT) : MT := fun sl st => (a sl st).andThen fun c st1 => if c = true then b sl st1 else .ok false st1
def mOr (a b : MT) : MT := fun sl st => (a sl st).andThen fun c st1 => if c = true then .ok true st1 else b sl st1
def mNot (a : MT) : MT := fun sl st => (a sl st).andThen fun c st1 => .ok (!c) st1
def mIfE (c : MT) (a b : ME) : ME := fun sl st => (c sl st).andThen fun d st1 => if d = true then a sl st1 else b sl st1
/-- a test as a value -/
def mVal (c : MT) : ME := fun sl st => (c sl st).andThen fun d st1 => .ok (.bl d) st1
/-- one test upon another, the middle asked once -/
def mChain (o o' : O2) (a b c : ME) : MT := fun sl st => gcB st ((a sl st).andThen fun x st1 => (b sl st1).andThen fun y st2 => (calmR (o x y st2)).andThen fun z st3 => match z with
  | .bl true => (c sl st3).andThen fun w st4 => (calmR (o' y w st4)).andThen fun u st5 => match u with
    | .bl d => .ok d st5
    | _ => .bad
  | .bl false => .ok false st3
  | _ => .bad)
section
variable {X : Cx} {g : G} {W : WX} {a b c e : Expr} {rest : List Expr} {m ma mb mc : ME} {ta tb tc : MT} {pos : Pos}
theorem tTest_of {t : TE} {σ : St} {H : Hp} {Q : Bool → Hp → Prop} {m : ME} (i : ∀ Q, rdE g W m σ H Q → t σ H Q) (h : rdT g W (mTest m) σ H Q) : t σ H (fun x H' => ∃ k, x = .bl k ∧ Q k H') := by
  obtain ⟨ρ, sl, st, S, L, w⟩ := h
  refine i _ (runE S L (want.gcT S w) fun v st1 ρ1 H1 x e1 S1 L1 r1 w1 => ?_)
  cases v with
  | bl k =>
    unfold RepV at r1
    exact ⟨k, r1, w1 ρ1 H1 (Ext.refl _ _) S1⟩
  | _ => exact False.elim w1
theorem s_t_cmp {op : CmpOp} {o : O2} (ho : OpR X (compareOp op) (rd2 g o)) (ha : SE X g W a ma) (hb : SE X g W b mb) (hm : behindInMarks op b = false := by first | exact nomark _ | rfl) : SC X g W (.Compare a [op] [b] pos) (mTest (mOp o ma mb)) :=
  PT.imp (pt_cmpR ho ha hb hm) fun σ H Q h => tTest_of (fun _ h => tOp_of h) h
theorem s_t_val (h : SE X g W e m) (he : ∀ whole, isTrue e X.env whole = (do let v ← whole; standAt e.pos; holding [v] (truthy v)) := by intro _; rfl) : SC X g W e (mTest m) :=
  PT.imp (pt_val h he) fun σ H Q h => tTest_of (fun _ h => h) h
abbrev SW (X : Cx) (g : G) (W : WX) (e : Expr) (m : MT) : Prop := PW X e (rdT g W m)
theorem PW.imp {X : Cx} {e : Expr} {t t' : TT} (h : PW X e t) (i : ∀ σ H Q, t' σ H Q → t σ H Q) : PW X e t' := ⟨fun wh pins s σ H Q I q => h.run wh pins s σ H Q I (i σ H Q q)⟩
theorem s_and1 (ha : SC X g W a ta) : SW X g W (.BoolOp .And [a] pos) ta := pw_and1 ha
theorem s_or1 (ha : SC X g W a ta) : SW X g W (.BoolOp .Or [a] pos) ta := pw_or1 ha
theorem s_and (ha : SC X g W a ta) (hb : SW X g W (.BoolOp .And (b :: rest) pos) tb) : SW X g W (.BoolOp .And (a :: b :: rest) pos) (mAnd ta tb) := PW.imp (pw_and ha hb) fun σ H Q ⟨ρ, sl, st, S, L, w⟩ =>
  runT S L w fun v st1 ρ1 H1 e1 S1 L1 w1 => by
    cases v with
    | true => exact ⟨ρ1, sl, st1, S1, L1, w1⟩
    | false => exact w1 ρ1 H1 (Ext.refl _ _) S1
theorem s_or (ha : SC X g W a ta) (hb : SW X g W (.BoolOp .Or (b :: rest) pos) tb) : SW X g W (.BoolOp .Or (a :: b :: rest) pos) (mOr ta tb) := PW.imp (pw_or ha hb) fun σ H Q ⟨ρ, sl, st, S, L, w⟩ =>
  runT S L w fun v st1 ρ1 H1 e1 S1 L1 w1 => by
    cases v with
    | false => exact ⟨ρ1, sl, st1, S1, L1, w1⟩
    | true => exact w1 ρ1 H1 (Ext.refl _ _) S1
theorem s_t_bool (h : SW X g W e ta) : SC X g W e ta := h.pt
theorem s_t_not (ha : SC X g W a ta) : SC X g W (.UnaryOp .Not a pos) (mNot ta) := PT.imp (pt_not ha) fun σ H Q ⟨ρ, sl, st, S, L, w⟩ =>
  runT S L w fun v st1 ρ1 H1 e1 S1 L1 w1 => w1 ρ1 H1 (Ext.refl _ _) S1
/-- bools by and, or, not, as values -/
theorem s_v_one {op} (h : SE X g W a ma) : SE X g W (.BoolOp op [a] pos) ma := pe_one h
theorem s_v_and (ha : SE X g W a ma) (hb : SE X g W (.BoolOp .And (b :: rest) pos) mb) : SE X g W (.BoolOp .And (a :: b :: rest) pos) (mIfE (mTest ma) mb (mC (.bl false))) := PE.imp (pe_and ha hb) fun σ H Q ⟨ρ, sl, st, S, L, w⟩ => by
  have h0 : rdT g W (mTest ma) σ H (fun c H1 => if c = true then rdE g W mb σ H1 Q else Q (.bl false) H1) := runT S L w fun v st1 ρ1 H1 e1 S1 L1 w1 => by
    cases v with
    | true => exact ⟨ρ1, sl, st1, S1, L1, w1⟩
    | false => exact w1 ρ1 H1 (Ext.refl _ _) S1 (.bl false) (by unfold RepV; rfl)
  exact tTest_of (fun _ h => h) h0
theorem s_v_or (ha : SE X g W a ma) (hb : SE X g W (.BoolOp .Or (b :: rest) pos) mb) : SE X g W (.BoolOp .Or (a :: b :: rest) pos) (mIfE (mTest ma) (mC (.bl true)) mb) := PE.imp (pe_or ha hb) fun σ H Q ⟨ρ, sl, st, S, L, w⟩ => by
  have h0 : rdT g W (mTest ma) σ H (fun c H1 => if c = true then Q (.bl true) H1 else rdE g W mb σ H1 Q) := runT S L w fun v st1 ρ1 H1 e1 S1 L1 w1 => by
    cases v with
    | false => exact ⟨ρ1, sl, st1, S1, L1, w1⟩
    | true => exact w1 ρ1 H1 (Ext.refl _ _) S1 (.bl true) (by unfold RepV; rfl)
  exact tTest_of (fun _ h => h) h0
theorem s_v_not (ha : SE X g W a ma) : SE X g W (.UnaryOp .Not a pos) (mVal (mNot (mTest ma))) := PE.imp (pe_not ha) fun σ H Q ⟨ρ, sl, st, S, L, w⟩ => by
  have h0 : rdT g W (mTest ma) σ H (fun c H1 => Q (.bl (!c)) H1) := by
    refine ⟨ρ, sl, st, S, L, ?_⟩
    have w' : want g W σ ρ H (qE g Q) ((mTest ma sl st).andThen fun c st1 => .ok (.bl (!c)) st1) := by
      have : mVal (mNot (mTest ma)) sl st = (mTest ma sl st).andThen fun c st1 => .ok (.bl (!c)) st1 := by
        unfold mVal mNot
        cases mTest ma sl st <;> rfl
      rw [← this]; exact w
    exact want.step w' fun v st1 ρ1 H1 e1 S1 w1 => w1 ρ1 H1 (Ext.refl _ _) S1 _ (by unfold RepV; rfl)
  exact tTest_of (fun _ h => h) h0
theorem s_ifExp (hc : SC X g W c tc) (ha : SE X g W a ma) (hb : SE X g W b mb) : SE X g W (.IfExp c a b pos) (mIfE tc ma mb) := PE.imp (pe_ifExp hc ha hb) fun σ H Q ⟨ρ, sl, st, S, L, w⟩ =>
  runT S L w fun v st1 ρ1 H1 e1 S1 L1 w1 => by
    cases v with
    | true => exact ⟨ρ1, sl, st1, S1, L1, w1⟩
    | false => exact ⟨ρ1, sl, st1, S1, L1, w1⟩
theorem tChain_of {o o' : O2} {σ : St} {H : Hp} {Q : VK} (h : rdT g W (mChain o o' ma mb mc) σ H fun k H' => Q (.bl k) H') :
    tChain (rd2 g o) (rd2 g o') (rdE g W ma) (rdE g W mb) (rdE g W mc) σ H Q := by
  obtain ⟨ρ, sl, st, S, L, w⟩ := h
  show rdE g W ma σ H _
  refine runE S L (want.gcT S w) fun v st1 ρ1 H1 x e1 S1 L1 r1 w1 => ?_
  refine runE S1 L1 w1 fun u st2 ρ2 H2 y e2 S2 L2 r2 w2 => ?_
  refine ⟨ρ2, st2, v, u, S2, r1.ext e2, r2, ?_⟩
  cases eo : o v u st2 with
  | bad => rw [eo] at w2; exact w2
  | exc k s => rw [eo] at w2; exact False.elim w2
  | ok z st3 =>
    rw [eo] at w2
    intro ρ3 H3 e3 S3 x3 r3
    cases z with
    | bl k =>
      unfold RepV at r3
      refine ⟨k, r3, ?_⟩
      cases k with
      | false => exact w2 ρ3 H3 e3 S3
      | true =>
        show rdE g W mc σ H3 _
        refine runE S3 (L2.ext e3) (want.later e3 w2) fun q st4 ρ4 H4 x4 e4 S4 L4 r4 w4 => ?_
        refine ⟨ρ4, st4, u, q, S4, (r2.ext e3).ext e4, r4, ?_⟩
        cases eo' : o' u q st4 with
        | bad => rw [eo'] at w4; exact w4
        | exc k s => rw [eo'] at w4; exact False.elim w4
        | ok z' st5 =>
          rw [eo'] at w4
          intro ρ5 H5 e5 S5 x5 r5
          cases z' with
          | bl d =>
            unfold RepV at r5
            subst r5
            exact w4 ρ5 H5 e5 S5
          | _ => exact False.elim w4
    | _ => exact False.elim w2
theorem rdT.mono {m : MT} {σ : St} {H : Hp} {Q Q' : Bool → Hp → Prop} (h : rdT g W m σ H Q) (i : ∀ b H', Q b H' → Q' b H') : rdT g W m σ H Q' := by
  obtain ⟨ρ, sl, st, S, L, w⟩ := h
  refine ⟨ρ, sl, st, S, L, ?_⟩
  cases e : m sl st with
  | ok v st' => rw [e] at w; exact fun ρ' H' e' S' => i _ _ (w ρ' H' e' S')
  | exc c st' => rw [e] at w; exact w
  | bad => rw [e] at w; exact w
theorem s_t_chain {op op' : CmpOp} {o o' : O2} (ho : OpR X (compareOp op) (rd2 g o)) (ho' : OpR X (compareOp op') (rd2 g o')) (ha : SE X g W a ma) (hb : SE X g W b mb) (hc : SE X g W c mc)
    (hm : lastMarks [op, op'] [b, c] = false := by with_unfolding_all rfl) : SC X g W (.Compare a [op, op'] [b, c] pos) (mChain o o' ma mb mc) :=
  PT.imp (pt_chain ho ho' ha hb hc hm) fun σ H Q h => tChain_of (h.mono fun b H' q => ⟨b, rfl, q⟩)
end

/-! ### statements -/
inductive Out where
  | next (sl : Slots) (st : Store)
  | ret (v : IV) (st : Store)
  | brk (sl : Slots) (st : Store)
  | cont (sl : Slots) (st : Store)
  | exc (c : Nat) (sl : Slots) (st : Store)
  | bad
abbrev MS := Slots → Store → Out
def Res.out {α : Type} (r : Res α) (sl : Slots) (f : α → Store → Out) : Out := match r with
  | .ok v st => f v st
  | .exc c st => .exc c sl st
  | .bad => .bad
@[simp] theorem Res.out_ok {α : Type} (v : α) (st : Store) (sl : Slots) (f : α → Store → Out) : (Res.ok v st).out sl f = f v st := rfl
@[simp] theorem Res.out_exc {α : Type} (c : Nat) (st : Store) (sl : Slots) (f : α → Store → Out) : (Res.exc c st : Res α).out sl f = .exc c sl st := rfl
@[simp] theorem Res.out_bad {α : Type} (sl : Slots) (f : α → Store → Out) : (Res.bad : Res α).out sl f = .bad := rfl
def Out.andThen (r : Out) (f : Slots → Store → Out) : Out := match r with
  | .next sl st => f sl st
  | o => o
@[simp] theorem Out.andThen_next (sl st f) : (Out.next sl st).andThen f = f sl st := rfl
@[simp] theorem Out.andThen_ret (v st f) : (Out.ret v st).andThen f = .ret v st := rfl
@[simp] theorem Out.andThen_brk (sl st f) : (Out.brk sl st).andThen f = .brk sl st := rfl
@[simp] theorem Out.andThen_cont (sl st f) : (Out.cont sl st).andThen f = .cont sl st := rfl
@[simp] theorem Out.andThen_exc (c sl st f) : (Out.exc c sl st).andThen f = .exc c sl st := rfl
@[simp] theorem Out.andThen_bad (f) : Out.bad.andThen f = .bad := rfl

def wantS (g : G) (W : WX) (ρ : List Addr) (H : Hp) (D : Ends) : Out → Prop
  | .next sl st => ∀ ρ' H' σ', Ext ρ H ρ' H' → StR g ρ' st H' → SlR g ρ' H' sl σ' → D.nx σ' H'
  | .ret v st => ∀ ρ' H' x, Ext ρ H ρ' H' → StR g ρ' st H' → RepV g ρ' H' v x → D.rt x H'
  | .brk sl st => ∀ ρ' H' σ', Ext ρ H ρ' H' → StR g ρ' st H' → SlR g ρ' H' sl σ' → D.bk σ' H'
  | .cont sl st => ∀ ρ' H' σ', Ext ρ H ρ' H' → StR g ρ' st H' → SlR g ρ' H' sl σ' → D.ct σ' H'
  | .exc c sl st => ∀ ρ' H' σ' C, Ext ρ H ρ' H' → StR g ρ' st H' → SlR g ρ' H' sl σ' → g.exc[c]? = some C → W (.ref C) none σ' H'
  | .bad => False
def rdS (g : G) (W : WX) (m : MS) : TS := fun D σ H => ∃ ρ sl st, StR g ρ st H ∧ SlR g ρ H sl σ ∧ wantS g W ρ H D (m sl st)
abbrev SS (X : Cx) (g : G) (W : WX) (s : Stmt) (m : MS) : Prop := PS X s (rdS g W m)
abbrev SB (X : Cx) (g : G) (W : WX) (s : List Stmt) (m : MS) : Prop := PSs X s (rdS g W m)
section
variable {g : G} {W : WX} {ρ ρ1 : List Addr} {H H1 : Hp} {sl : Slots} {st : Store} {σ : St} {D : Ends}
theorem wantS.later {r : Out} (e : Ext ρ H ρ1 H1) (h : wantS g W ρ H D r) : wantS g W ρ1 H1 D r := by
  cases r with
  | next sl st => exact fun ρ' H' x e' => h ρ' H' x (e.trans e')
  | ret v st => exact fun ρ' H' x e' => h ρ' H' x (e.trans e')
  | brk sl st => exact fun ρ' H' x e' => h ρ' H' x (e.trans e')
  | cont sl st => exact fun ρ' H' x e' => h ρ' H' x (e.trans e')
  | exc c sl st => exact fun ρ' H' x C e' => h ρ' H' x C (e.trans e')
  | bad => exact h
theorem wantS.step {α : Type} {P' : α → Store → List Addr → Hp → Prop} {r : Res α} {f : α → Store → Out} (L : SlR g ρ H sl σ) (h : wantS g W ρ H D (r.out sl f))
    (hk : ∀ v st1 ρ1 H1, Ext ρ H ρ1 H1 → StR g ρ1 st1 H1 → wantS g W ρ1 H1 D (f v st1) → P' v st1 ρ1 H1) : want g W σ ρ H P' r := by
  cases r with
  | ok v st' => exact fun ρ' H' e' S => hk v st' ρ' H' e' S (wantS.later e' h)
  | exc c st' => exact fun ρ' H' C e' S hc => h ρ' H' σ C e' S (L.ext e') hc
  | bad => exact h
theorem runES {m : ME} {f : IV → Store → Out} {Q : VK} (S : StR g ρ st H) (L : SlR g ρ H sl σ) (h : wantS g W ρ H D ((m sl st).out sl f))
    (hk : ∀ v st1 ρ1 H1 x, Ext ρ H ρ1 H1 → StR g ρ1 st1 H1 → SlR g ρ1 H1 sl σ → RepV g ρ1 H1 v x → wantS g W ρ1 H1 D (f v st1) → Q x H1) : rdE g W m σ H Q :=
  ⟨ρ, sl, st, S, L, wantS.step L h fun v st1 ρ1 H1 e S1 w x r => hk v st1 ρ1 H1 x e S1 (L.ext e) r w⟩
theorem runTS {m : MT} {f : Bool → Store → Out} {Q : Bool → Hp → Prop} (S : StR g ρ st H) (L : SlR g ρ H sl σ) (h : wantS g W ρ H D ((m sl st).out sl f))
    (hk : ∀ v st1 ρ1 H1, Ext ρ H ρ1 H1 → StR g ρ1 st1 H1 → SlR g ρ1 H1 sl σ → wantS g W ρ1 H1 D (f v st1) → Q v H1) : rdT g W m σ H Q :=
  ⟨ρ, sl, st, S, L, wantS.step L h fun v st1 ρ1 H1 e S1 w => hk v st1 ρ1 H1 e S1 (L.ext e) w⟩
/-- other ends, where a statement is followed by others -/
theorem wantS.ends {D' : Ends} {r : Out} {f : Slots → Store → Out} (h : wantS g W ρ H D (r.andThen f))
    (hn : ∀ sl1 st1 ρ1 H1 σ1, Ext ρ H ρ1 H1 → StR g ρ1 st1 H1 → SlR g ρ1 H1 sl1 σ1 → wantS g W ρ1 H1 D (f sl1 st1) → D'.nx σ1 H1)
    (hr : ∀ x H, D.rt x H → D'.rt x H) (hb : ∀ x H, D.bk x H → D'.bk x H) (hc : ∀ x H, D.ct x H → D'.ct x H) : wantS g W ρ H D' r := by
  cases r with
  | next sl st => exact fun ρ' H' x e' S L => hn _ _ _ _ _ e' S L (wantS.later e' h)
  | ret v st => exact fun ρ' H' x e' S L => hr _ _ (h ρ' H' x e' S L)
  | brk sl st => exact fun ρ' H' x e' S L => hb _ _ (h ρ' H' x e' S L)
  | cont sl st => exact fun ρ' H' x e' S L => hc _ _ (h ρ' H' x e' S L)
  | exc c sl st => exact h
  | bad => exact h
end

def mEnd : MS := fun sl st => .next sl st
def mSeq (a b : MS) : MS := fun sl st => (a sl st).andThen b
def mSet (i : Nat) (m : ME) : MS := fun sl st => (m sl st).out sl fun v st1 => .next (sl.set i (some v)) st1
def mDrop (m : ME) : MS := fun sl st => (m sl st).out sl fun _ st1 => .next sl st1
def mRet (m : ME) : MS := fun sl st => (m sl st).out sl fun v st1 => .ret v st1
def mRetN : MS := fun _ st => .ret .non st
def mBrk : MS := fun sl st => .brk sl st
def mCont : MS := fun sl st => .cont sl st
def mIf (c : MT) (a b : MS) : MS := fun sl st => (c sl st).out sl fun d st1 => if d = true then a sl st1 else b sl st1
def mNever : MS := fun _ _ => .bad
section
variable {X : Cx} {g : G} {W : WX} {s : Stmt} {ss rest : List Stmt} {a b : MS} {e c : Expr} {m : ME} {t : MT} {pos : Pos}
theorem s_end : SB X g W [] mEnd := PSs.imp pss_nil fun D σ H ⟨ρ, sl, st, S, L, w⟩ => w ρ H σ (Ext.refl _ _) S L
theorem s_seq (h : SS X g W s a) (h2 : SB X g W rest b) : SB X g W (s :: rest) (mSeq a b) := PSs.imp (pss_cons h h2) fun D σ H ⟨ρ, sl, st, S, L, w⟩ =>
  ⟨ρ, sl, st, S, L, wantS.ends w (fun sl1 st1 ρ1 H1 σ1 e S1 L1 w1 => ⟨ρ1, sl1, st1, S1, L1, w1⟩) (fun _ _ h => h) (fun _ _ h => h) fun _ _ h => h⟩
theorem s_one (h : SS X g W s a) : SB X g W [s] a := pss_one h
theorem s_set (i : Nat) {x : Str} {pos' : Pos} (hN : X.N.Nodup) (he : SE X g W e m) (hi : X.N[i]? = some x := by rfl) (hx : Loc X.env.scope x := by first | exact .inl rfl | exact .inr rfl)
    (hs : swapsWith e (some (.Name x pos')) pos.line X.env = pure false := by rfl) (hf : X.fn x = true ∨ X.env.scope.names.lookup x = some .local := by first | exact .inl rfl | exact .inr rfl) :
    SS X g W (.Assign [.Name x pos'] e pos) (mSet i m) := PS.imp (ps_set hN hi hx he hs hf) fun D σ H ⟨ρ, sl, st, S, L, w⟩ =>
  runES S L w fun v st1 ρ1 H1 x e1 S1 L1 r1 w1 => w1 ρ1 H1 _ (Ext.refl _ _) S1 (L1.set i r1)
theorem s_expr (he : SE X g W e m) (hs : swapsWith e none pos.line X.env = pure false := by rfl) : SS X g W (.Expr e pos) (mDrop m) := PS.imp (ps_expr he hs) fun D σ H ⟨ρ, sl, st, S, L, w⟩ =>
  runES S L w fun v st1 ρ1 H1 x e1 S1 L1 r1 w1 => w1 ρ1 H1 _ (Ext.refl _ _) S1 L1
theorem s_ret (he : SE X g W e m) : SS X g W (.Return (some e) pos) (mRet m) := PS.imp (ps_ret he) fun D σ H ⟨ρ, sl, st, S, L, w⟩ =>
  runES S L w fun v st1 ρ1 H1 x e1 S1 L1 r1 w1 => w1 ρ1 H1 _ (Ext.refl _ _) S1 r1
theorem s_retN : SS X g W (.Return none pos) mRetN := PS.imp ps_retN fun D σ H ⟨ρ, sl, st, S, L, w⟩ => w ρ H .non (Ext.refl _ _) S (by unfold RepV; rfl)
theorem s_pass : SS X g W (.Pass pos) mEnd := PS.imp ps_pass fun D σ H ⟨ρ, sl, st, S, L, w⟩ => w ρ H σ (Ext.refl _ _) S L
theorem s_brk : SS X g W (.Break pos) mBrk := PS.imp ps_break fun D σ H ⟨ρ, sl, st, S, L, w⟩ => w ρ H σ (Ext.refl _ _) S L
theorem s_cont : SS X g W (.Continue pos) mCont := PS.imp ps_continue fun D σ H ⟨ρ, sl, st, S, L, w⟩ => w ρ H σ (Ext.refl _ _) S L
theorem s_if {sa sb : List Stmt} (hc : SC X g W c t) (ha : SB X g W sa a) (hb : SB X g W sb b) : SS X g W (.If c sa sb pos) (mIf t a b) := PS.imp (ps_if hc ha hb) fun D σ H ⟨ρ, sl, st, S, L, w⟩ =>
  runTS S L w fun v st1 ρ1 H1 e1 S1 L1 w1 => by
    cases v with
    | true => exact ⟨ρ1, sl, st1, S1, L1, w1⟩
    | false => exact ⟨ρ1, sl, st1, S1, L1, w1⟩
theorem s_never : SS X g W s mNever := PS.imp ps_never fun D σ H ⟨ρ, sl, st, S, L, w⟩ => w
theorem s_nevers : SB X g W ss mNever := PSs.imp pss_never fun D σ H ⟨ρ, sl, st, S, L, w⟩ => w
end

/-! ### targets of names -/
inductive Tg where
  | one (i : Nat)
  | many (is : List Nat)
def setMany {α : Type} : List Nat → List α → List (Option α) → List (Option α)
  | i :: is, x :: xs, s => setMany is xs (s.set i (some x))
  | _, _, s => s
def Tg.ixs : Tg → List Nat
  | .one i => [i]
  | .many is => is
/-- what the slots are behind the store of a value -/
def Tg.store : Tg → IV → Slots → Option Slots
  | .one i, x, sl => some (sl.set i (some x))
  | .many is, .tup xs, sl => if xs.length = is.length then some (setMany is xs sl) else none
  | .many _, _, _ => none
def Tg.rd (K : PySem.W.Frag) : Tg → TG
  | .one i => fun v σ H Q => Q (σ.set i (some v)) H
  | .many is => fun v σ H Q => ∃ a vs, v = .ref a ∧ SqT K H a vs ∧ vs.length = is.length ∧ Q (setMany is vs σ) H
theorem setMany_length {α : Type} : ∀ (is : List Nat) (xs : List α) (s : List (Option α)), (setMany is xs s).length = s.length
  | [], _, s => rfl
  | _ :: _, [], s => rfl
  | i :: is, x :: xs, s => by
    unfold setMany
    rw [setMany_length is xs, List.length_set]
theorem SlR.many {g : G} {ρ : List Addr} {H : Hp} : ∀ {is : List Nat} {xs : List IV} {vs : List V} {sl : Slots} {σ : St}, SlR g ρ H sl σ → RepVs g ρ H xs vs → SlR g ρ H (setMany is xs sl) (setMany is vs σ)
  | [], xs, vs, _, _, S, r => S
  | i :: is, [], vs, _, _, S, r => by
    unfold RepVs at r
    subst r
    exact S
  | i :: is, x :: xs, vs, _, _, S, r => by
    unfold RepVs at r
    obtain ⟨v, r', rfl, h1, h2⟩ := r
    exact SlR.many (is := is) (S.set i h1) h2
theorem Tg.rd_of {g : G} {ρ : List Addr} {H : Hp} {t : Tg} {x : IV} {v : V} {sl sl' : Slots} {σ : St} {Q : St → Hp → Prop} (L : SlR g ρ H sl σ) (r : RepV g ρ H x v) (h : t.store x sl = some sl')
    (q : ∀ σ', SlR g ρ H sl' σ' → Q σ' H) : t.rd g.K v σ H Q := by
  cases t with
  | one i =>
    simp only [Tg.store, Option.some.injEq] at h
    subst h
    exact q _ (L.set i r)
  | many is =>
    cases x with
    | tup xs =>
      simp only [Tg.store] at h
      by_cases c : xs.length = is.length
      · rw [if_pos c] at h
        cases h
        unfold RepV at r
        obtain ⟨a, vs, e, hs, hr⟩ := r
        exact ⟨a, vs, e, hs.sq, by rw [hr.length]; exact c, q _ (L.many hr)⟩
      · rw [if_neg c] at h; cases h
    | _ => simp [Tg.store] at h
section
variable {X : Cx} {g : G} {pos : Pos}
abbrev ST (X : Cx) (g : G) (e : Expr) (t : Tg) : Prop := PG X e (t.rd g.K)
theorem g_one (i : Nat) {x : Str} (hN : X.N.Nodup) (hi : X.N[i]? = some x := by rfl) (hx : Loc X.env.scope x := by first | exact .inl rfl | exact .inr rfl) (hf : X.fn x = true ∨ X.env.scope.names.lookup x = some .local := by first | exact .inl rfl | exact .inr rfl) : ST X g (.Name x pos) (.one i) :=
  pg_name hN hi hx hf
def gMany (is : List Nat) : TGs := fun vs σ H Q => vs.length = is.length ∧ Q (setMany is vs σ) H
theorem g_nil : PGs X [] (gMany []) := ⟨fun pins s σ H vs us Q I r h => pgs_nil.run pins s σ H vs us Q I r ⟨List.length_eq_zero_iff.mp h.1, h.2⟩⟩
theorem g_cons {e : Expr} {es : List Expr} {i : Nat} {is : List Nat} (h1 : ST X g e (.one i)) (h2 : PGs X es (gMany is))
    (hs : (assignEach (e :: es) X.env).map (·.2) = assign e X.env :: (assignEach es X.env).map (·.2) := by rfl) : PGs X (e :: es) (gMany (i :: is)) :=
  ⟨fun pins s σ H vs us Q I r h => (pgs_cons h1 h2 hs).run pins s σ H vs us Q I r (by
    obtain ⟨hl, q⟩ := h
    cases vs with
    | nil => cases hl
    | cons v vr => exact ⟨v, vr, rfl, by simpa using hl, q⟩)⟩
theorem g_tup {es : List Expr} {k : Nat} {is : List Nat} (hc : X.calm = true) (hK : X.K = g.K) (h : PGs X es (gMany is))
    (hn : (assignEach es X.env).length = is.length := by rfl) (hst : (assignEach es X.env).findIdx? (·.1) = none := by rfl) : ST X g (.Tuple es k pos) (.many is) :=
  ⟨fun pins s σ H v u Q I r w => (pg_tup hc h hn hst).run pins s σ H v u Q I r (by
    obtain ⟨a, vs, e, hs, hl, q⟩ := w
    exact ⟨a, vs, e, by rw [hK]; exact hs, hl, hl, q⟩)⟩
end
/-- several names at once -/
def mAsg (t : Tg) (m : ME) : MS := fun sl st => (m sl st).out sl fun v st1 => match t.store v sl with
  | some sl1 => .next sl1 st1
  | none => .bad
section
variable {X : Cx} {g : G} {W : WX} {e tg : Expr} {m : ME} {t : Tg} {pos : Pos}
theorem s_asg (hg : ST X g tg t) (he : SE X g W e m) (hs : swapsWithSole [tg] e pos.line X.env = pure false := by rfl) (hw : swappedStores [tg] e X.env = pure none := by rfl)
    (h1 : (assignEach [tg] X.env).map (·.2) = [assign tg X.env] := by rfl) : SS X g W (.Assign [tg] e pos) (mAsg t m) := PS.imp (ps_asg he hg hs hw h1) fun D σ H ⟨ρ, sl, st, S, L, w⟩ =>
  runES S L w fun v st1 ρ1 H1 x e1 S1 L1 r1 w1 => by
    cases e : t.store v sl with
    | none => rw [e] at w1; exact False.elim w1
    | some sl1 =>
      rw [e] at w1
      exact Tg.rd_of L1 r1 e fun σ' L' => w1 ρ1 H1 σ' (Ext.refl _ _) S1 L'
end
end Mi

set_option Elab.async false
set_option linter.all false
set_option maxRecDepth 100000
set_option maxHeartbeats 2000000
/-! Mi3: what is walked, for, while, comprehensions. -/
namespace Mi
open PySem L2

/-- what a loop walks: its items, and what must stay as it is meanwhile -/
inductive Walk where
  | fix (xs : List IV)
  | at (n : Nat) (xs : List IV)
def Walk.items : Walk → List IV
  | .fix xs => xs
  | .at _ xs => xs
def Walk.chk : Walk → Store → Bool
  | .fix _, _ => true
  | .at n xs, st => decide (st[n]? = some (.lst xs))
@[simp] theorem Walk.items_fix (xs) : (Walk.fix xs).items = xs := rfl
@[simp] theorem Walk.items_at (n xs) : (Walk.at n xs).items = xs := rfl
@[simp] theorem Walk.chk_fix (xs st) : (Walk.fix xs).chk st = true := rfl
@[simp] theorem Walk.chk_at (n xs) (st : Store) : (Walk.at n xs).chk st = decide (st[n]? = some (.lst xs)) := rfl
abbrev MI := MM Walk
/-- the iterator J goes as w says, from any later heap -/
def WalkOk (g : G) (J : It) (ρ₀ : List Addr) (H₀ : Hp) (w : Walk) : Prop :=
  ∀ ρ H st, Ext ρ₀ H₀ ρ H → StR g ρ st H → w.chk st = true → ∀ i : Nat,
    (∀ x, w.items[i]? = some x → J.go i H ∧ ∀ v H', J.yld i H v H' → Ext ρ H ρ H' ∧ StR g ρ st H' ∧ RepV g ρ H' x v) ∧ (w.items[i]? = none → J.stop i H)
abbrev qI (g : G) (R : It → Hp → Prop) : Walk → Store → List Addr → Hp → Prop := fun w _ ρ' H' => ∀ J, WalkOk g J ρ' H' w → R J H'
def rdI (g : G) (W : WX) (m : MI) : TI := fun σ H R => ∃ ρ sl st, StR g ρ st H ∧ SlR g ρ H sl σ ∧ want g W σ ρ H (qI g R) (m sl st)
abbrev SI (X : Cx) (g : G) (W : WX) (tg iter : Expr) (m : MI) : Prop := PI X tg iter (rdI g W m)
theorem PI.imp {X : Cx} {tg e : Expr} {t t' : TI} (h : PI X tg e t) (i : ∀ σ H Q, t' σ H Q → t σ H Q) : PI X tg e t' := ⟨fun pins s σ H Q I q => h.run pins s σ H Q I (i σ H Q q)⟩
theorem PI.or {X : Cx} {tg e : Expr} {t t' : TI} (h : PI X tg e t) (h' : PI X tg e t') : PI X tg e (fun σ H Q => t σ H Q ∨ t' σ H Q) := ⟨fun pins s σ H Q I q => q.elim (h.run pins s σ H Q I) (h'.run pins s σ H Q I)⟩

/-- one of a list of values that stand still has its value among the values of a list that stand in the heap -/
theorem RepVs.get {g : G} {ρ : List Addr} {H : Hp} : ∀ {xs : List IV} {vs : List V} {i : Nat} {x : IV}, RepVs g ρ H xs vs → xs[i]? = some x → ∃ v, vs[i]? = some v ∧ RepV g ρ H x v
  | [], _, _, _, _, h => by simp at h
  | y :: ys, vs, i, x, r, h => by
    unfold RepVs at r
    obtain ⟨v, r', rfl, h1, h2⟩ := r
    cases i with
    | zero =>
      simp at h
      subst h
      exact ⟨v, rfl, h1⟩
    | succ i =>
      simp at h
      obtain ⟨v', h3, h4⟩ := RepVs.get h2 h
      exact ⟨v', by simpa using h3, h4⟩
theorem RepVs.stop {g : G} {ρ : List Addr} {H : Hp} {xs : List IV} {vs : List V} {i : Nat} (r : RepVs g ρ H xs vs) (h : xs[i]? = none) : vs.length ≤ i := by
  rw [r.length]
  exact List.getElem?_eq_none_iff.mp h

/-- a value to be walked: a tuple, a list of the store, a list that is only read -/
def walkV : IV → Store → Option Walk
  | .tup xs, _ => some (.fix xs)
  | .ro xs, _ => some (.fix xs)
  | .loc n, st => match st[n]? with
    | some (.lst xs) => some (.at n xs)
    | _ => none
  | _, _ => none
def iVal (m : ME) : MI := fun sl st => (m sl st).andThen fun v st1 => match walkV v st1 with
  | some w => .ok w st1
  | none => .bad
/-- the signs of a text -/
def iStr (m : ME) : MI := fun sl st => (m sl st).andThen fun v st1 => match v with
  | .str s => .ok (.fix (s.map fun c => .str [c])) st1
  | _ => .bad
section
variable {X : Cx} {g : G} {W : WX} {tg e : Expr} {m : ME}
theorem walk_tup {J : It} {K : PySem.W.Frag} (hK : K = g.K) {ρ : List Addr} {H : Hp} {a : Addr} {xs : List IV} {vs : List V} (h : TupAt K ρ H a vs) (r : RepVs g ρ H xs vs) : WalkOk g (Itt K a) ρ H (.fix xs) := fun ρ' H' st e S _ i => by
  have h' := (h.ext e).sq
  have r' := r.ext e
  refine ⟨fun x hx => ?_, fun hn => ⟨vs, h', r'.stop hn⟩⟩
  obtain ⟨v, h1, h2⟩ := r'.get hx
  refine ⟨⟨vs, v, h', h1⟩, fun u H2 hy => ?_⟩
  obtain ⟨rfl, hy⟩ := hy
  have := hy vs h'
  rw [h1] at this
  cases this
  exact ⟨Ext.refl _ _, S, h2⟩
theorem walk_ro {J : It} {K : PySem.W.Frag} (hK : K = g.K) {ρ : List Addr} {H : Hp} {a : Addr} {xs : List IV} {vs : List V} (h : LstAt K ρ H a vs) (r : RepVs g ρ H xs vs) : WalkOk g (Itl K a) ρ H (.fix xs) := fun ρ' H' st e S _ i => by
  have h' := (h.ext e).sq
  have r' := r.ext e
  refine ⟨fun x hx => ?_, fun hn => ⟨vs, h', r'.stop hn⟩⟩
  obtain ⟨v, h1, h2⟩ := r'.get hx
  refine ⟨⟨vs, v, h', h1⟩, fun u H2 hy => ?_⟩
  obtain ⟨rfl, hy⟩ := hy
  have := hy vs h'
  rw [h1] at this
  cases this
  exact ⟨Ext.refl _ _, S, h2⟩
/-- what stands at a place -/
theorem StR.lst {ρ : List Addr} {st : Store} {H : Hp} (S : StR g ρ st H) {n : Nat} {a : Addr} {xs : List IV} (ha : ρ[n]? = some a) (hc : st[n]? = some (.lst xs)) : ∃ vs, H a = some (.lst vs) ∧ RepVs g ρ H xs vs := by
  obtain ⟨o, h1, h2⟩ := S.cell n a _ ha hc
  unfold RepC at h2
  obtain ⟨vs, rfl, h3⟩ := h2
  exact ⟨vs, h1, h3⟩
theorem walk_loc {K : PySem.W.Frag} (hK : K = g.K) {ρ : List Addr} {H : Hp} {n : Nat} {a : Addr} {xs : List IV} (ha : ρ[n]? = some a) : WalkOk g (Itl K a) ρ H (.at n xs) := fun ρ' H' st e S c i => by
  have c := of_decide_eq_true c
  obtain ⟨vs, h1, r'⟩ := S.lst (e.get ha) c
  have h' : SqL K H' a vs := SqL.of h1
  refine ⟨fun x hx => ?_, fun hn => ⟨vs, h', r'.stop hn⟩⟩
  obtain ⟨v, g1, h2⟩ := r'.get hx
  refine ⟨⟨vs, v, h', g1⟩, fun u H2 hy => ?_⟩
  obtain ⟨rfl, hy⟩ := hy
  have := hy vs h'
  rw [g1] at this
  cases this
  exact ⟨Ext.refl _ _, S, h2⟩
theorem i_val (hK : X.K = g.K) (he : SE X g W e m) : SI X g W tg e (iVal m) := PI.imp (PI.or (pi_tup he) (pi_list he)) fun σ H Q ⟨ρ, sl, st, S, L, w⟩ => by
  cases em : m sl st with
  | bad => simp only [iVal, em, Res.andThen_bad] at w; exact False.elim w
  | exc c st1 =>
    simp only [iVal, em, Res.andThen_exc] at w
    exact .inl ⟨ρ, sl, st, S, L, by rw [em]; exact w⟩
  | ok v st1 =>
    simp only [iVal, em, Res.andThen_ok] at w
    cases v with
    | tup xs =>
      refine .inl ⟨ρ, sl, st, S, L, ?_⟩
      rw [em]
      intro ρ' H' e' S' x r
      unfold RepV at r
      obtain ⟨a, vs, e1, h1, h2⟩ := r
      exact ⟨a, e1, ⟨vs, by rw [hK]; exact h1.sq⟩, w ρ' H' e' S' _ (walk_tup (J := Itt X.K a) hK (by rw [hK]; exact h1) h2)⟩
    | ro xs =>
      refine .inr ⟨ρ, sl, st, S, L, ?_⟩
      rw [em]
      intro ρ' H' e' S' x r
      unfold RepV at r
      obtain ⟨a, vs, e1, h1, h2⟩ := r
      exact ⟨a, e1, ⟨vs, by rw [hK]; exact h1.sq⟩, w ρ' H' e' S' _ (walk_ro (J := Itl X.K a) hK (by rw [hK]; exact h1) h2)⟩
    | loc n =>
      refine .inr ⟨ρ, sl, st, S, L, ?_⟩
      rw [em]
      intro ρ' H' e' S' x r
      unfold RepV at r
      obtain ⟨a, e1, h1⟩ := r
      simp only [walkV] at w
      cases ec : st1[n]? with
      | none => rw [ec] at w; exact False.elim w
      | some c =>
        rw [ec] at w
        cases c with
        | lst xs =>
          obtain ⟨vs, h2, h3⟩ := S'.lst h1 ec
          exact ⟨a, e1, ⟨vs, SqL.of h2⟩, w ρ' H' e' S' _ (walk_loc hK h1)⟩
        | _ => exact False.elim w
    | _ => exact False.elim w
end

/-! ### ranges, texts -/
/-- lo, lo + c, .. -/
def steps (lo c : Int) (n : Nat) : List IV := (List.range n).map fun k => .int (lo + (k : Nat) * c)
def inLine (i : Int) : Bool := decide (-(2 ^ 62) ≤ i) && decide (i < 2 ^ 62)
def asInt1 : List IV → Option Int
  | [.int j] => some j
  | _ => none
def asInt2 : List IV → Option (Int × Int)
  | [.int i, .int j] => some (i, j)
  | _ => none
def asInt3 : List IV → Option (Int × Int × Int)
  | [.int i, .int j, .int c] => some (i, j, c)
  | _ => none
theorem asInt1_eq {vs : List IV} {j : Int} (h : asInt1 vs = some j) : vs = [.int j] := by
  unfold asInt1 at h
  split at h
  · cases h; rfl
  · cases h
theorem asInt2_eq {vs : List IV} {q : Int × Int} (h : asInt2 vs = some q) : vs = [.int q.1, .int q.2] := by
  unfold asInt2 at h
  split at h
  · cases h; rfl
  · cases h
theorem asInt3_eq {vs : List IV} {q : Int × Int × Int} (h : asInt3 vs = some q) : vs = [.int q.1, .int q.2.1, .int q.2.2] := by
  unfold asInt3 at h
  split at h
  · cases h; rfl
  · cases h
def iRange (a : MA) : MI := fun sl st => (a sl st).andThen fun vs st1 => match asInt1 vs with
  | some j => if inLine j = true then .ok (.fix (steps 0 1 j.toNat)) st1 else .bad
  | none => .bad
def iRange2 (a : MA) : MI := fun sl st => (a sl st).andThen fun vs st1 => match asInt2 vs with
  | some q => if inLine q.1 = true ∧ inLine q.2 = true then .ok (.fix (steps q.1 1 (q.2 - q.1).toNat)) st1 else .bad
  | none => .bad
/-- how many turns a range with a step has -/
def turns (i j c : Int) : Nat := if c = -1 then (i - j).toNat else ((j - i + c - 1) / c).toNat
def iRange3 (a : MA) : MI := fun sl st => (a sl st).andThen fun vs st1 => match asInt3 vs with
  | some q => if inLine q.1 = true ∧ inLine q.2.1 = true ∧ (q.2.2 = -1 ∨ q.2.2 = 8 ∨ q.2.2 = 16) then .ok (.fix (steps q.1 q.2.2 (turns q.1 q.2.1 q.2.2))) st1 else .bad
  | none => .bad
theorem steps_get {lo c : Int} {n i : Nat} {x : IV} (h : (steps lo c n)[i]? = some x) : i < n ∧ x = .int (lo + (i : Nat) * c) := by
  unfold steps at h
  rw [List.getElem?_map] at h
  cases e : (List.range n)[i]? with
  | none => rw [e] at h; cases h
  | some k =>
    rw [e] at h
    obtain ⟨h1, h2⟩ := List.getElem?_eq_some_iff.mp e
    rw [List.length_range] at h1
    rw [List.getElem_range] at h2
    subst h2
    exact ⟨h1, (Option.some.inj h).symm⟩
theorem steps_none {lo c : Int} {n i : Nat} (h : (steps lo c n)[i]? = none) : n ≤ i := by
  have := List.getElem?_eq_none_iff.mp h
  unfold steps at this
  simpa using this
section
variable {X : Cx} {g : G} {W : WX} {tg e : Expr} {m : ME} {a b c : Expr} {ma : MA} {p pos : Pos}
theorem walk_itr {ρ : List Addr} {H : Hp} {lo : Int} {n : Nat} : WalkOk g (Itr lo n) ρ H (.fix (steps lo 1 n)) := fun ρ' H' st e S _ i => by
  refine ⟨fun x hx => ?_, fun hn => steps_none hn⟩
  obtain ⟨h1, h2⟩ := steps_get hx
  refine ⟨h1, fun v H2 hy => ?_⟩
  obtain ⟨rfl, rfl⟩ := hy
  refine ⟨Ext.refl _ _, S, ?_⟩
  subst h2
  unfold RepV
  rw [Int.mul_one]
theorem walk_itc {ρ : List Addr} {H : Hp} {lo c : Int} {n : Nat} : WalkOk g (Itc lo c n) ρ H (.fix (steps lo c n)) := fun ρ' H' st e S _ i => by
  refine ⟨fun x hx => ?_, fun hn => steps_none hn⟩
  obtain ⟨h1, h2⟩ := steps_get hx
  refine ⟨h1, fun v H2 hy => ?_⟩
  obtain ⟨rfl, rfl⟩ := hy
  refine ⟨Ext.refl _ _, S, ?_⟩
  subst h2
  unfold RepV
  rfl
theorem inLine_iff {i : Int} : inLine i = true ↔ -(2 ^ 62) ≤ i ∧ i < 2 ^ 62 := by
  unfold inLine
  rw [Bool.and_eq_true, decide_eq_true_eq, decide_eq_true_eq]
theorem RepVs.int1 {ρ : List Addr} {H : Hp} {i : Int} {vs : List V} (h : RepVs g ρ H [.int i] vs) : vs = [.int i] := by
  unfold RepVs RepV at h
  obtain ⟨v, r, rfl, rfl, h⟩ := h
  unfold RepVs at h
  rw [h]
theorem RepVs.cons_int {ρ : List Addr} {H : Hp} {i : Int} {xs : List IV} {vs : List V} (h : RepVs g ρ H (.int i :: xs) vs) : ∃ r, vs = .int i :: r ∧ RepVs g ρ H xs r := by
  unfold RepVs RepV at h
  obtain ⟨v, r, rfl, rfl, h⟩ := h
  exact ⟨r, rfl, h⟩
theorem RepVs.cons_str {ρ : List Addr} {H : Hp} {s : List Nat} {xs : List IV} {vs : List V} (h : RepVs g ρ H (.str s :: xs) vs) : ∃ r, vs = .str ⟨s.toArray⟩ :: r ∧ RepVs g ρ H xs r := by
  unfold RepVs RepV at h
  obtain ⟨v, r, rfl, rfl, h⟩ := h
  exact ⟨r, rfl, h⟩
theorem RepVs.cons {ρ : List Addr} {H : Hp} {x : IV} {xs : List IV} {vs : List V} (h : RepVs g ρ H (x :: xs) vs) : ∃ v r, vs = v :: r ∧ RepV g ρ H x v ∧ RepVs g ρ H xs r := by
  unfold RepVs at h
  exact h
theorem RepVs.nil {ρ : List Addr} {H : Hp} {vs : List V} (h : RepVs g ρ H [] vs) : vs = [] := by
  unfold RepVs at h
  exact h
theorem i_range1 (hm : X.mg "range" = none) (ha : SA X g W [a] ma) (hg : Gl X "range" := by rfl) (hs : starEach [a] X.env = [(false, eval a X.env)] := by rfl) : SI X g W tg (.Call (.Name "range" p) [a] [] pos) (iRange ma) := PI.imp (pi_range1 hg hm ha hs) fun σ H Q ⟨ρ, sl, st, S, L, w⟩ =>
  runA S L w fun vs st1 ρ1 H1 xs e1 S1 L1 r1 w1 => by
    cases q : asInt1 vs with
    | none => rw [q] at w1; exact False.elim w1
    | some j =>
      rw [q] at w1
      rw [asInt1_eq q] at r1
      simp only at w1
      by_cases c : inLine j = true
      · rw [if_pos c] at w1
        obtain ⟨c1, c2⟩ := inLine_iff.mp c
        exact ⟨j, r1.int1, c1, c2, w1 ρ1 H1 (Ext.refl _ _) S1 _ walk_itr⟩
      · rw [if_neg c] at w1; exact False.elim w1
theorem i_range2 (hm : X.mg "range" = none) (ha : SA X g W [a, b] ma) (hg : Gl X "range" := by rfl) (hs : starEach [a, b] X.env = [(false, eval a X.env), (false, eval b X.env)] := by rfl) (hs2 : starEach [b] X.env = [(false, eval b X.env)] := by rfl) :
    SI X g W tg (.Call (.Name "range" p) [a, b] [] pos) (iRange2 ma) := PI.imp (pi_range2 hg hm ha hs hs2) fun σ H Q ⟨ρ, sl, st, S, L, w⟩ =>
  runA S L w fun vs st1 ρ1 H1 xs e1 S1 L1 r1 w1 => by
    cases q : asInt2 vs with
    | none => rw [q] at w1; exact False.elim w1
    | some j =>
      rw [q] at w1
      rw [asInt2_eq q] at r1
      obtain ⟨r, rfl, r2⟩ := r1.cons_int
      simp only at w1
      by_cases c : inLine j.1 = true ∧ inLine j.2 = true
      · rw [if_pos c] at w1
        obtain ⟨c1, c2⟩ := inLine_iff.mp c.1
        obtain ⟨c3, c4⟩ := inLine_iff.mp c.2
        exact ⟨j.1, j.2, by rw [r2.int1], ⟨c1, c2, c3, c4⟩, w1 ρ1 H1 (Ext.refl _ _) S1 _ walk_itr⟩
      · rw [if_neg c] at w1; exact False.elim w1
theorem rgC_8 {i j : Int} (h1 : -(2 ^ 62) ≤ i) (h2 : i < 2 ^ 62) (h3 : -(2 ^ 62) ≤ j) (h4 : j < 2 ^ 62) : RgC i j 8 ((j - i + 8 - 1) / 8).toNat := by
  have e : Builtin.Range.rangeSize i j 8 = (((j - i + 8 - 1) / 8).toNat : Nat) := by
    unfold Builtin.Range.rangeSize
    rw [if_pos (by decide)]
    split <;> omega
  refine ⟨by decide, by decide, ?_, e⟩
  unfold Builtin.Range.small
  rw [e]
  simp only [Builtin.Range.rangeFitsLong, Bool.and_eq_true, Bool.or_eq_true, decide_eq_true_eq, beq_iff_eq, show (8 : Int) > 0 by decide, if_true]
  omega
theorem rgC_16 {i j : Int} (h1 : -(2 ^ 62) ≤ i) (h2 : i < 2 ^ 62) (h3 : -(2 ^ 62) ≤ j) (h4 : j < 2 ^ 62) : RgC i j 16 ((j - i + 16 - 1) / 16).toNat := by
  have e : Builtin.Range.rangeSize i j 16 = (((j - i + 16 - 1) / 16).toNat : Nat) := by
    unfold Builtin.Range.rangeSize
    rw [if_pos (by decide)]
    split <;> omega
  refine ⟨by decide, by decide, ?_, e⟩
  unfold Builtin.Range.small
  rw [e]
  simp only [Builtin.Range.rangeFitsLong, Bool.and_eq_true, Bool.or_eq_true, decide_eq_true_eq, beq_iff_eq, show (16 : Int) > 0 by decide, if_true]
  omega
theorem i_range3 (hm : X.mg "range" = none) (ha : SA X g W [a, b, c] ma) (hg : Gl X "range" := by rfl) (hs : starEach [a, b, c] X.env = (false, eval a X.env) :: starEach [b, c] X.env := by rfl) (hpl : (backTo pos (starEach [b, c] X.env)).any (·.1) = false := by rfl) :
    SI X g W tg (.Call (.Name "range" p) [a, b, c] [] pos) (iRange3 ma) := PI.imp (pi_range3 hg hm ha hs hpl) fun σ H Q ⟨ρ, sl, st, S, L, w⟩ =>
  runA S L w fun vs st1 ρ1 H1 xs e1 S1 L1 r1 w1 => by
    cases q : asInt3 vs with
    | none => rw [q] at w1; exact False.elim w1
    | some j =>
      rw [q] at w1
      rw [asInt3_eq q] at r1
      obtain ⟨r, rfl, r2⟩ := r1.cons_int
      obtain ⟨r, rfl, r3⟩ := r2.cons_int
      simp only at w1
      by_cases c : inLine j.1 = true ∧ inLine j.2.1 = true ∧ (j.2.2 = -1 ∨ j.2.2 = 8 ∨ j.2.2 = 16)
      · rw [if_pos c] at w1
        obtain ⟨c1, c2⟩ := inLine_iff.mp c.1
        obtain ⟨c3, c4⟩ := inLine_iff.mp c.2.1
        refine ⟨j.1, j.2.1, j.2.2, turns j.1 j.2.1 j.2.2, by rw [r3.int1], ?_, w1 ρ1 H1 (Ext.refl _ _) S1 _ walk_itc⟩
        unfold turns
        rcases c.2.2 with d | d | d
        · rw [if_pos d, d]
          exact RgC.neg c1 c2 c3 c4
        · rw [if_neg (by omega), d]
          exact rgC_8 c1 c2 c3 c4
        · rw [if_neg (by omega), d]
          exact rgC_16 c1 c2 c3 c4
      · rw [if_neg c] at w1; exact False.elim w1
theorem i_str (he : SE X g W e m) : SI X g W tg e (iStr m) := PI.imp (pi_str he) fun σ H Q ⟨ρ, sl, st, S, L, w⟩ =>
  runE S L w fun v st1 ρ1 H1 x e1 S1 L1 r1 w1 => by
    cases v with
    | str s =>
      unfold RepV at r1
      refine ⟨_, r1, w1 ρ1 H1 (Ext.refl _ _) S1 _ fun ρ' H' st' e S' _ i => ⟨fun y hy => ?_, fun hn => ?_⟩⟩
      · rw [Walk.items_fix, List.getElem?_map] at hy
        cases q : s[i]? with
        | none => rw [q] at hy; cases hy
        | some c =>
          rw [q] at hy
          have hl := (List.getElem?_eq_some_iff.mp q).1
          refine ⟨by show i < s.toArray.size; simpa using hl, fun u H2 hy2 => ?_⟩
          obtain ⟨rfl, d, hd, rfl⟩ := hy2
          refine ⟨Ext.refl _ _, S', ?_⟩
          have hd' : s[i]? = some d := by simpa using hd
          rw [q] at hd'
          cases hd'
          have := (Option.some.inj hy).symm
          subst this
          unfold RepV
          rfl
      · show s.toArray.size ≤ i
        rw [Walk.items_fix, List.getElem?_map] at hn
        cases q : s[i]? with
        | none => simpa using List.getElem?_eq_none_iff.mp q
        | some c => rw [q] at hn; cases hn
    | _ => exact False.elim w1
end

/-! ### for -/
def forL (chk : Store → Bool) (t : Tg) (body : MS) : List IV → MS
  | [], sl, st => if chk st = true then .next sl st else .bad
  | x :: xs, sl, st => if chk st = true then match t.store x sl with
    | none => .bad
    | some sl1 => match body sl1 st with
      | .next sl2 st2 => forL chk t body xs sl2 st2
      | .cont sl2 st2 => forL chk t body xs sl2 st2
      | .brk sl2 st2 => .next sl2 st2
      | o => o
    else .bad
def mFor (mi : MI) (t : Tg) (body : MS) : MS := fun sl st => (mi sl st).out sl fun w st1 => forL w.chk t body w.items sl st1
section
variable {X : Cx} {g : G} {W : WX} {tg iter : Expr} {body : List Stmt} {mi : MI} {t : Tg} {mb : MS} {pos : Pos}
theorem s_for (hp : PassesOwn (model X.prog X.w) X.A X.env X.xe) (hc : X.calm = true) (hi : SI X g W tg iter mi) (hg : ST X g tg t) (hb : SB X g W body mb)
    (hs : ∀ x, foldedSetIterable iter X.env x = pure x := by intro _; rfl) : SS X g W (.For tg iter body [] pos) (mFor mi t mb) := PS.imp (ps_for hp hc hi hg hb hs) fun D σ H ⟨ρ, sl, st, S, L, w⟩ => by
  refine ⟨ρ, sl, st, S, L, wantS.step L w fun wk st1 ρ1 H1 e1 S1 w1 J hJ => ?_⟩
  refine ⟨fun i m σ2 H2 => i + m = wk.items.length ∧ ∃ ρ2 sl2 st2, Ext ρ1 H1 ρ2 H2 ∧ StR g ρ2 st2 H2 ∧ SlR g ρ2 H2 sl2 σ2 ∧ wantS g W ρ2 H2 D (forL wk.chk t mb (wk.items.drop i) sl2 st2), ⟨wk.items.length, by omega, ρ1, sl, st1, Ext.refl _ _, S1, L.ext e1, by simpa using w1⟩, ?_⟩
  rintro i m σ2 H2 ⟨him, ρ2, sl2, st2, e2, S2, L2, w2⟩
  cases hx : wk.items[i]? with
  | none =>
    have hd : wk.items.drop i = [] := List.drop_eq_nil_iff.mpr (List.getElem?_eq_none_iff.mp hx)
    rw [hd] at w2
    unfold forL at w2
    by_cases c : wk.chk st2 = true
    · rw [if_pos c] at w2
      exact .inl ⟨(hJ ρ2 H2 st2 e2 S2 c i).2 hx, w2 ρ2 H2 σ2 (Ext.refl _ _) S2 L2⟩
    · rw [if_neg c] at w2
      exact False.elim w2
  | some x =>
    have hl := (List.getElem?_eq_some_iff.mp hx).1
    have hd : wk.items.drop i = x :: wk.items.drop (i + 1) := by
      rw [List.drop_eq_getElem_cons hl]
      rw [List.getElem?_eq_getElem hl] at hx
      cases hx
      rfl
    rw [hd] at w2
    unfold forL at w2
    by_cases c : wk.chk st2 = true
    · rw [if_pos c] at w2
      obtain ⟨go, yl⟩ := (hJ ρ2 H2 st2 e2 S2 c i).1 x hx
      refine .inr ⟨go, fun σ' H' => ∃ m', m' < m ∧ (i + 1 + m' = wk.items.length ∧ ∃ ρ2 sl2 st2, Ext ρ1 H1 ρ2 H' ∧ StR g ρ2 st2 H' ∧ SlR g ρ2 H' sl2 σ' ∧ wantS g W ρ2 H' D (forL wk.chk t mb (wk.items.drop (i + 1)) sl2 st2)), fun _ _ h => h, fun v H3 hy => ?_⟩
      obtain ⟨e3, S3, r3⟩ := yl v H3 hy
      cases es : t.store x sl2 with
      | none => rw [es] at w2; exact False.elim w2
      | some sl3 =>
        rw [es] at w2
        refine Tg.rd_of (L2.ext e3) r3 es fun σ4 L4 => ⟨ρ2, sl3, st2, S3, L4, ?_⟩
        have e13 := e2.trans e3
        cases eb : mb sl3 st2 with
        | next sl5 st5 =>
          simp only [eb] at w2
          exact fun ρ5 H5 σ5 e5 S5 L5 => ⟨m - 1, by omega, by omega, ρ5, sl5, st5, e13.trans e5, S5, L5, wantS.later (e3.trans e5) w2⟩
        | cont sl5 st5 =>
          simp only [eb] at w2
          exact fun ρ5 H5 σ5 e5 S5 L5 => ⟨m - 1, by omega, by omega, ρ5, sl5, st5, e13.trans e5, S5, L5, wantS.later (e3.trans e5) w2⟩
        | brk sl5 st5 =>
          simp only [eb] at w2
          exact fun ρ5 H5 σ5 e5 S5 L5 => w2 ρ5 H5 σ5 (e3.trans e5) S5 L5
        | ret v5 st5 =>
          simp only [eb] at w2
          exact fun ρ5 H5 x5 e5 S5 r5 => w2 ρ5 H5 x5 (e3.trans e5) S5 r5
        | exc c5 sl5 st5 =>
          simp only [eb] at w2
          exact fun ρ5 H5 σ5 C e5 S5 L5 => w2 ρ5 H5 σ5 C (e3.trans e5) S5 L5
        | bad =>
          simp only [eb] at w2
          exact False.elim w2
    · rw [if_neg c] at w2
      exact False.elim w2
end

/-! ### while -/
def whileN (c : MT) (body : MS) : Nat → MS
  | 0, _, _ => .bad
  | n + 1, sl, st => (c sl st).out sl fun b st1 => if b = true then match body sl st1 with
      | .next sl2 st2 => whileN c body n sl2 st2
      | .cont sl2 st2 => whileN c body n sl2 st2
      | .brk sl2 st2 => .next sl2 st2
      | o => o
    else .next sl st1
open Classical in
/-- a while loop: as many turns as it takes; bad where it never ends -/
noncomputable def mWhile (c : MT) (body : MS) : MS := fun sl st => if h : ∃ n, whileN c body n sl st ≠ .bad then whileN c body (Classical.choose h) sl st else .bad
theorem whileN_succ (c : MT) (body : MS) : ∀ (n : Nat) (sl : Slots) (st : Store), whileN c body n sl st ≠ .bad → whileN c body (n + 1) sl st = whileN c body n sl st
  | 0, _, _, h => absurd rfl h
  | n + 1, sl, st, h => by
    rw [whileN, whileN]
    rw [whileN] at h
    cases ec : c sl st with
    | bad => rfl
    | exc k s => rfl
    | ok b st1 =>
      simp only [ec, Res.out_ok] at h ⊢
      cases b with
      | false => rfl
      | true =>
        simp only [if_true] at h ⊢
        cases eb : body sl st1 with
        | next sl2 st2 =>
          simp only [eb] at h ⊢
          exact whileN_succ c body n sl2 st2 h
        | cont sl2 st2 =>
          simp only [eb] at h ⊢
          exact whileN_succ c body n sl2 st2 h
        | _ => rfl
theorem whileN_le {c : MT} {body : MS} {n k : Nat} {sl : Slots} {st : Store} (h : whileN c body n sl st ≠ .bad) (l : n ≤ k) : whileN c body k sl st = whileN c body n sl st := by
  induction l with
  | refl => rfl
  | step l ih => rw [whileN_succ _ _ _ _ _ (by rw [ih]; exact h), ih]
theorem mWhile_of {c : MT} {body : MS} {n : Nat} {sl : Slots} {st : Store} (h : whileN c body n sl st ≠ .bad) : mWhile c body sl st = whileN c body n sl st := by
  have ex : ∃ n, whileN c body n sl st ≠ .bad := ⟨n, h⟩
  unfold mWhile
  rw [dif_pos ex]
  have h2 := Classical.choose_spec ex
  rcases Nat.le_total n (Classical.choose ex) with l | l
  · exact whileN_le h l
  · exact (whileN_le h2 l).symm
theorem mWhile_some {c : MT} {body : MS} {sl : Slots} {st : Store} (h : mWhile c body sl st ≠ .bad) : ∃ n, whileN c body n sl st = mWhile c body sl st := by
  unfold mWhile at h ⊢
  by_cases ex : ∃ n, whileN c body n sl st ≠ .bad
  · rw [dif_pos ex]; exact ⟨_, rfl⟩
  · rw [dif_neg ex] at h; exact absurd rfl h
/-- one turn -/
theorem mWhile_eq (c : MT) (body : MS) (sl : Slots) (st : Store) : mWhile c body sl st = (c sl st).out sl fun b st1 => if b = true then match body sl st1 with
      | .next sl2 st2 => mWhile c body sl2 st2
      | .cont sl2 st2 => mWhile c body sl2 st2
      | .brk sl2 st2 => .next sl2 st2
      | o => o
    else .next sl st1 := by
  by_cases h : ∃ n, whileN c body n sl st ≠ .bad
  · obtain ⟨n, hn⟩ := h
    rw [mWhile_of hn]
    cases n with
    | zero => exact absurd rfl hn
    | succ n =>
      rw [whileN] at hn ⊢
      cases ec : c sl st with
      | bad => rfl
      | exc k s => rfl
      | ok b st1 =>
        simp only [ec, Res.out_ok] at hn ⊢
        cases b with
        | false => rfl
        | true =>
          simp only [if_true] at hn ⊢
          cases eb : body sl st1 with
          | next sl2 st2 => simp only [eb] at hn ⊢; rw [mWhile_of hn]
          | cont sl2 st2 => simp only [eb] at hn ⊢; rw [mWhile_of hn]
          | _ => rfl
  · have e : mWhile c body sl st = .bad := by unfold mWhile; rw [dif_neg h]
    rw [e]
    have all : ∀ n, whileN c body n sl st = .bad := fun n => Classical.not_not.mp fun z => h ⟨n, z⟩
    have h1 := all 1
    rw [whileN] at h1
    cases ec : c sl st with
    | bad => rfl
    | exc k s => simp only [ec, Res.out_exc] at h1; cases h1
    | ok b st1 =>
      simp only [ec, Res.out_ok] at h1 ⊢
      cases b with
      | false => simp at h1
      | true =>
        simp only [if_true] at h1 ⊢
        cases eb : body sl st1 with
        | next sl2 st2 =>
          simp only
          cases hq : mWhile c body sl2 st2 with
          | bad => rfl
          | _ =>
            obtain ⟨k, hk⟩ := mWhile_some (c := c) (body := body) (sl := sl2) (st := st2) (by rw [hq]; intro z; cases z)
            have h2 := all (k + 1)
            rw [whileN] at h2
            simp only [ec, Res.out_ok, if_true, eb] at h2
            rw [h2, hq] at hk
            cases hk
        | cont sl2 st2 =>
          simp only
          cases hq : mWhile c body sl2 st2 with
          | bad => rfl
          | _ =>
            obtain ⟨k, hk⟩ := mWhile_some (c := c) (body := body) (sl := sl2) (st := st2) (by rw [hq]; intro z; cases z)
            have h2 := all (k + 1)
            rw [whileN] at h2
            simp only [ec, Res.out_ok, if_true, eb] at h2
            rw [h2, hq] at hk
            cases hk
        | brk sl2 st2 => simp only [eb] at h1; cases h1
        | ret v st2 => simp only [eb] at h1; cases h1
        | exc k sl2 st2 => simp only [eb] at h1; cases h1
        | bad => rfl
section
variable {X : Cx} {g : G} {W : WX} {c : Expr} {body : List Stmt} {mc : MT} {mb : MS} {pos : Pos}
theorem s_while (hp : PassesOwn (model X.prog X.w) X.A X.env X.xe) (hc : SC X g W c mc) (hb : SB X g W body mb) : SS X g W (.While c body [] pos) (mWhile mc mb) := PS.imp (ps_while hp hc hb) fun D σ H ⟨ρ, sl, st, S, L, w⟩ => by
  have nb : mWhile mc mb sl st ≠ .bad := fun z => by rw [z] at w; exact w
  obtain ⟨n, hn⟩ := mWhile_some nb
  rw [← hn] at w
  refine ⟨fun m σ2 H2 => ∃ ρ2 sl2 st2, Ext ρ H ρ2 H2 ∧ StR g ρ2 st2 H2 ∧ SlR g ρ2 H2 sl2 σ2 ∧ wantS g W ρ2 H2 D (whileN mc mb m sl2 st2), ⟨n, ρ, sl, st, Ext.refl _ _, S, L, w⟩, ?_⟩
  rintro m σ2 H2 ⟨ρ2, sl2, st2, e2, S2, L2, w2⟩
  cases m with
  | zero => exact False.elim w2
  | succ m =>
    rw [whileN] at w2
    refine runTS S2 L2 w2 fun b st3 ρ3 H3 e3 S3 L3 w3 => ?_
    cases b with
    | false =>
      show D.nx σ2 H3
      exact w3 ρ3 H3 σ2 (Ext.refl _ _) S3 L3
    | true =>
      simp only [if_true] at w3
      refine ⟨fun σ' H' => ∃ m', m' < m + 1 ∧ ∃ ρ2 sl2 st2, Ext ρ H ρ2 H' ∧ StR g ρ2 st2 H' ∧ SlR g ρ2 H' sl2 σ' ∧ wantS g W ρ2 H' D (whileN mc mb m' sl2 st2), fun _ _ h => h, ρ3, sl2, st3, S3, L3, ?_⟩
      have e13 := e2.trans e3
      cases eb : mb sl2 st3 with
      | next sl5 st5 =>
        simp only [eb] at w3
        exact fun ρ5 H5 σ5 e5 S5 L5 => ⟨m, Nat.lt_succ_self _, ρ5, sl5, st5, e13.trans e5, S5, L5, wantS.later e5 w3⟩
      | cont sl5 st5 =>
        simp only [eb] at w3
        exact fun ρ5 H5 σ5 e5 S5 L5 => ⟨m, Nat.lt_succ_self _, ρ5, sl5, st5, e13.trans e5, S5, L5, wantS.later e5 w3⟩
      | brk sl5 st5 => simp only [eb] at w3; exact w3
      | ret v5 st5 => simp only [eb] at w3; exact w3
      | exc c5 sl5 st5 => simp only [eb] at w3; exact w3
      | bad => simp only [eb] at w3; exact w3
end

/-! ### comprehensions -/
def wipeS : Slots → List Nat → Slots
  | sl, [] => sl
  | sl, v :: vs => (wipeS sl vs).set v none
/-- the turns of a comprehension: the new list stands at d -/
def lcL (chk : Store → Bool) (t : Tg) (test : MT) (elt : ME) (d : Nat) (sl0 : Slots) : List IV → Store → Res IV
  | [], st => if chk st = true then .ok (.loc d) st else .bad
  | x :: xs, st => if chk st = true then match t.store x sl0 with
    | none => .bad
    | some sl1 => match test sl1 st with
      | .ok true st1 => match elt sl1 st1 with
        | .ok y st2 => match st2[d]? with
          | some (.lst acc) => if acc.length < 16777216 then lcL chk t test elt d sl0 xs (st2.set d (.lst (acc ++ [y]))) else .bad
          | _ => .bad
        | _ => .bad
      | .ok false st1 => lcL chk t test elt d sl0 xs st1
      | _ => .bad
    else .bad
def mLc (mi : MI) (t : Tg) (own : List Nat) (test : MT) (elt : ME) : ME := fun sl st => if (t.ixs.all fun i => own.contains i) = true then (mi sl st).andThen fun w st1 =>
  lcL w.chk t test elt st1.length (wipeS sl own) w.items (st1 ++ [.lst []]) else .bad
def mYes : MT := fun _ st => .ok true st
section
variable {X : Cx} {g : G} {W : WX}
theorem SlR.wipe {ρ : List Addr} {H : Hp} {sl : Slots} {σ : St} (L : SlR g ρ H sl σ) : ∀ vs : List Nat, SlR g ρ H (wipeS sl vs) (wipe σ vs)
  | [] => L
  | v :: vs => by
    have ih := SlR.wipe L vs
    show SlR g ρ H ((wipeS sl vs).set v none) ((L2.wipe σ vs).set v none)
    refine ⟨by rw [List.length_set, List.length_set]; exact ih.len, fun i x h => ?_⟩
    by_cases hi : v = i
    · subst hi
      by_cases hl : v < (wipeS sl vs).length
      · rw [List.getElem?_set_self hl] at h; cases h
      · rw [List.getElem?_eq_none (by rw [List.length_set]; omega)] at h; cases h
    · rw [List.getElem?_set_ne hi] at h ⊢
      exact ih.get i x h
theorem set_set_none (σ : St) (i : Nat) (x : Option V) : (σ.set i x).set i none = σ.set i none := List.set_set x
theorem wipe_set {σ : St} {i : Nat} {x : Option V} : ∀ {vs : List Nat}, i ∈ vs → wipe (σ.set i x) vs = wipe σ vs
  | v :: vs, h => by
    unfold wipe
    by_cases hi : i = v
    · subst hi
      by_cases hm : i ∈ vs
      · rw [wipe_set hm]
      · have : ∀ ws : List Nat, i ∉ ws → wipe (σ.set i x) ws = (wipe σ ws).set i x := by
          intro ws
          induction ws with
          | nil => intro _; rfl
          | cons w ws ih =>
            intro hn
            unfold wipe
            rw [ih (fun z => hn (List.mem_cons_of_mem _ z)), List.set_comm]
            intro e
            exact hn (by rw [e]; exact List.mem_cons_self)
        rw [this vs hm, List.set_set]
    · rw [wipe_set ((List.mem_cons.mp h).resolve_left hi)]
theorem wipe_many : ∀ {is : List Nat} {xs : List V} {σ : St} {vs : List Nat}, (∀ i ∈ is, i ∈ vs) → wipe (setMany is xs σ) vs = wipe σ vs
  | [], _, _, _, _ => rfl
  | _ :: _, [], _, _, _ => rfl
  | i :: is, x :: xs, σ, vs, h => by
    unfold setMany
    rw [wipe_many fun j hj => h j (List.mem_cons_of_mem _ hj)]
    exact wipe_set (h i List.mem_cons_self)
theorem wipe_len (σ : St) (vs : List Nat) : (wipe σ vs).length = σ.length := wipe_length σ vs
theorem wipe_none {σ : St} : ∀ {vs : List Nat} {i : Nat}, i ∈ vs → i < σ.length → (wipe σ vs)[i]? = some none
  | v :: vs, i, h, hl => by
    unfold wipe
    by_cases hi : v = i
    · subst hi
      rw [List.getElem?_set_self (by rw [wipe_len]; exact hl)]
    · rw [List.getElem?_set_ne hi]
      exact wipe_none ((List.mem_cons.mp h).resolve_left (Ne.symm hi)) hl
theorem wipe_wipe {σ : St} : ∀ {us vs : List Nat}, (∀ i ∈ us, i ∈ vs) → wipe (wipe σ us) vs = wipe σ vs
  | [], _, _ => rfl
  | u :: us, vs, h => by
    show wipe ((wipe σ us).set u none) vs = _
    rw [wipe_set (h u List.mem_cons_self)]
    exact wipe_wipe fun i hi => h i (List.mem_cons_of_mem _ hi)
theorem tLc_of {mi : MI} {t : Tg} {own : List Nat} {test : MT} {elt : ME} {σ : St} {H : Hp} {Q : VK} (h : rdE g W (mLc mi t own test elt) σ H Q) :
    tLc (rdI g W mi) (t.rd g.K) (rdT g (fun _ _ _ _ => False) test) (rdE g (fun _ _ _ _ => False) elt) own σ H Q := by
  obtain ⟨ρ, sl, st, S, L, w⟩ := h
  unfold mLc at w
  by_cases co : (t.ixs.all fun i => own.contains i) = true
  · rw [if_pos co] at w
    have hown : ∀ i ∈ t.ixs, i ∈ own := fun i hi => by
      have := List.all_eq_true.mp co i hi
      simpa using this
    refine ⟨ρ, sl, st, S, L, want.step w fun wk st1 ρ1 H1 e1 S1 w1 J hJ D hD => ?_⟩
    -- the new list
    have eD : Ext ρ1 H1 (ρ1 ++ [D]) (upd H1 D (.lst [])) := Ext.lay hD
    have SD : StR g (ρ1 ++ [D]) (st1 ++ [.lst []]) (upd H1 D (.lst [])) := S1.lay hD ⟨[], rfl, by unfold RepVs; rfl⟩
    have rD : (ρ1 ++ [D])[st1.length]? = some D := by rw [← S1.len, List.getElem?_concat_length]
    have LW : SlR g ρ1 H1 (wipeS sl own) (wipe σ own) := (L.ext e1).wipe own
    refine ⟨fun i m H2 => i + m = wk.items.length ∧ ∃ ρ2 st2, Ext (ρ1 ++ [D]) (upd H1 D (.lst [])) ρ2 H2 ∧ StR g ρ2 st2 H2 ∧
      want g (fun _ _ _ _ => False) [] ρ2 H2 (qE g Q) (lcL wk.chk t test elt st1.length (wipeS sl own) (wk.items.drop i) st2), ⟨wk.items.length, by omega, ρ1 ++ [D], st1 ++ [.lst []], Ext.refl _ _, SD, ?_⟩, ?_⟩
    · have w2 := want.later eD w1
      rw [List.drop_zero]
      -- nothing is raised by the turns
      have calm : ∀ (xs : List IV) (st : Store), (∃ v st', lcL wk.chk t test elt st1.length (wipeS sl own) xs st = .ok v st') ∨ lcL wk.chk t test elt st1.length (wipeS sl own) xs st = .bad := by
        intro xs
        induction xs with
        | nil =>
          intro st
          unfold lcL
          by_cases c : wk.chk st = true
          · rw [if_pos c]; exact .inl ⟨_, _, rfl⟩
          · rw [if_neg c]; exact .inr rfl
        | cons x xs ih =>
          intro st
          unfold lcL
          by_cases c : wk.chk st = true
          · rw [if_pos c]
            cases t.store x (wipeS sl own) with
            | none => exact .inr rfl
            | some sl1 =>
              simp only
              cases test sl1 st with
              | bad => exact .inr rfl
              | exc _ _ => exact .inr rfl
              | ok b st1 =>
                cases b with
                | false => exact ih st1
                | true =>
                  simp only
                  cases elt sl1 st1 with
                  | bad => exact .inr rfl
                  | exc _ _ => exact .inr rfl
                  | ok y st2 =>
                    simp only
                    split
                    · split
                      · exact ih _
                      · exact .inr rfl
                    · exact .inr rfl
          · rw [if_neg c]; exact .inr rfl
      rcases calm wk.items (st1 ++ [.lst []]) with ⟨v, st', e⟩ | e
      · rw [e] at w2 ⊢; exact w2
      · rw [e] at w2 ⊢; exact w2
    · rintro i m H2 ⟨him, ρ2, st2, e2, S2, w2⟩
      have e12 : Ext ρ1 H1 ρ2 H2 := eD.trans e2
      cases hx : wk.items[i]? with
      | none =>
        have hd : wk.items.drop i = [] := List.drop_eq_nil_iff.mpr (List.getElem?_eq_none_iff.mp hx)
        rw [hd] at w2
        unfold lcL at w2
        by_cases c : wk.chk st2 = true
        · rw [if_pos c] at w2
          exact .inl ⟨(hJ ρ2 H2 st2 e12 S2 c i).2 hx, w2 ρ2 H2 (Ext.refl _ _) S2 (.ref D) (by unfold RepV; exact ⟨D, rfl, e2.get rD⟩)⟩
        · rw [if_neg c] at w2
          exact False.elim w2
      | some x =>
        have hl := (List.getElem?_eq_some_iff.mp hx).1
        have hd : wk.items.drop i = x :: wk.items.drop (i + 1) := by
          rw [List.drop_eq_getElem_cons hl]
          rw [List.getElem?_eq_getElem hl] at hx
          cases hx
          rfl
        rw [hd] at w2
        unfold lcL at w2
        by_cases c : wk.chk st2 = true
        · rw [if_pos c] at w2
          obtain ⟨go, yl⟩ := (hJ ρ2 H2 st2 e12 S2 c i).1 x hx
          refine .inr ⟨go, fun H' => ∃ m', m' < m ∧ (i + 1 + m' = wk.items.length ∧ ∃ ρ2 st2, Ext (ρ1 ++ [D]) (upd H1 D (.lst [])) ρ2 H' ∧ StR g ρ2 st2 H' ∧
            want g (fun _ _ _ _ => False) [] ρ2 H' (qE g Q) (lcL wk.chk t test elt st1.length (wipeS sl own) (wk.items.drop (i + 1)) st2)), fun _ h => h, fun v H3 hy => ?_⟩
          obtain ⟨e3, S3, r3⟩ := yl v H3 hy
          have LW3 : SlR g ρ2 H3 (wipeS sl own) (wipe σ own) := LW.ext (e12.trans e3)
          cases es : t.store x (wipeS sl own) with
          | none => rw [es] at w2; exact False.elim w2
          | some sl3 =>
            rw [es] at w2
            simp only at w2
            -- the target's slots are the comprehension's own
            have body : ∀ σ4, SlR g ρ2 H3 sl3 σ4 → wipe σ4 own = wipe (wipe σ own) own → wipe σ4 own = wipe σ own ∧ rdT g (fun _ _ _ _ => False) test σ4 H3 fun b H4 =>
                if b = true then rdE g (fun _ _ _ _ => False) elt σ4 H4 fun y H5 => ∃ acc, H5 D = some (.lst acc) ∧ acc.length < sizeLine ∧ ∃ m', m' < m ∧ (i + 1 + m' = wk.items.length ∧ ∃ ρ2 st2, Ext (ρ1 ++ [D]) (upd H1 D (.lst [])) ρ2 (upd H5 D (.lst (acc ++ [y]))) ∧ StR g ρ2 st2 (upd H5 D (.lst (acc ++ [y]))) ∧
                  want g (fun _ _ _ _ => False) [] ρ2 (upd H5 D (.lst (acc ++ [y]))) (qE g Q) (lcL wk.chk t test elt st1.length (wipeS sl own) (wk.items.drop (i + 1)) st2))
                else ∃ m', m' < m ∧ (i + 1 + m' = wk.items.length ∧ ∃ ρ2 st2, Ext (ρ1 ++ [D]) (upd H1 D (.lst [])) ρ2 H4 ∧ StR g ρ2 st2 H4 ∧
                  want g (fun _ _ _ _ => False) [] ρ2 H4 (qE g Q) (lcL wk.chk t test elt st1.length (wipeS sl own) (wk.items.drop (i + 1)) st2)) := by
              intro σ4 L4 hw4
              refine ⟨by rw [hw4]; exact wipe_wipe fun _ h => h, ρ2, sl3, st2, S3, L4, ?_⟩
              cases et : test sl3 st2 with
              | bad => simp only [et] at w2; exact False.elim w2
              | exc _ _ => simp only [et] at w2; exact False.elim w2
              | ok b st4 =>
                simp only [et] at w2
                intro ρ4 H4 e4 S4
                cases b with
                | false =>
                  simp only at w2
                  exact ⟨m - 1, by omega, by omega, ρ4, st4, e2.trans (e3.trans e4), S4, want.later (e3.trans e4) w2⟩
                | true =>
                  refine ⟨ρ4, sl3, st4, S4, L4.ext e4, ?_⟩
                  cases ee : elt sl3 st4 with
                  | bad => simp only [ee] at w2; exact False.elim w2
                  | exc _ _ => simp only [ee] at w2; exact False.elim w2
                  | ok y st5 =>
                    simp only [ee] at w2
                    intro ρ5 H5 e5 S5 yv r5
                    split at w2
                    · rename_i acc hacc
                      by_cases cl : acc.length < 16777216
                      · rw [if_pos cl] at w2
                        have e25 := e2.trans (e3.trans (e4.trans e5))
                        have hD5 := e25.get rD
                        obtain ⟨avs, ha1, ha2⟩ := S5.lst hD5 hacc
                        have hmem : D ∈ ρ5 := List.mem_of_getElem? hD5
                        have ra : RepVs g ρ5 H5 (acc ++ [y]) (avs ++ [yv]) := by
                          have : ∀ {as : List IV} {vs : List V}, RepVs g ρ5 H5 as vs → RepVs g ρ5 H5 (as ++ [y]) (vs ++ [yv]) := by
                            intro as
                            induction as with
                            | nil =>
                              intro vs h
                              rw [h.nil]
                              show RepVs g ρ5 H5 [y] [yv]
                              unfold RepVs
                              exact ⟨yv, [], rfl, r5, by unfold RepVs; rfl⟩
                            | cons a as ih =>
                              intro vs h
                              obtain ⟨v, r, rfl, h1, h2⟩ := h.cons
                              show RepVs g ρ5 H5 (a :: (as ++ [y])) _
                              unfold RepVs
                              exact ⟨v, r ++ [yv], rfl, h1, ih h2⟩
                          exact this ha2
                        refine ⟨avs, ha1, by rw [ha2.length]; exact Nat.lt_of_lt_of_le cl (by rw [sizeLine_eq]; exact Nat.le_refl _), m - 1, by omega, by omega, ρ5, _, e25.trans (Ext.put hmem), S5.put hD5 (c := .lst (acc ++ [y])) ⟨_, rfl, ra⟩, ?_⟩
                        exact want.later (e3.trans (e4.trans (e5.trans (Ext.put hmem)))) w2
                      · rw [if_neg cl] at w2; exact False.elim w2
                    · exact False.elim w2
            cases t with
            | one j =>
              simp only [Tg.store, Option.some.injEq] at es
              refine body _ ?_ (wipe_set (hown j (by simp [Tg.ixs])))
              rw [← es]
              exact LW3.set j r3
            | many is =>
              cases x with
              | tup xs =>
                simp only [Tg.store] at es
                by_cases cl : xs.length = is.length
                · rw [if_pos cl] at es
                  cases es
                  unfold RepV at r3
                  obtain ⟨a, vs, e, hs, hr⟩ := r3
                  exact ⟨a, vs, e, hs.sq, by rw [hr.length]; exact cl, body _ (LW3.many hr) (wipe_many fun j hj => hown j hj)⟩
                · rw [if_neg cl] at es; cases es
              | _ => simp [Tg.store] at es
        · rw [if_neg c] at w2
          exact False.elim w2
  · rw [if_neg co] at w
    exact False.elim w
end
end Mi

set_option Elab.async false
set_option linter.all false
set_option maxRecDepth 100000
set_option maxHeartbeats 2000000
/-! Mi4: defs and their calls, instances, raise, try. -/
namespace Mi
open PySem PySem.Spec PyProof.Rows L2

theorem RepVs.nil_mk {g : G} {ρ : List Addr} {H : Hp} : RepVs g ρ H [] [] := by unfold RepVs; rfl
abbrev FN := List IV → Store → Res IV
/-- a def's promise by a plain function -/
def spOf (g : G) (n : Nat) (F : FN) : Sp := fun vs H Q E => vs.length = n ∧ ∃ ρ st as, StR g ρ st H ∧ RepVs g ρ H as vs ∧ want g (fun cls d _ H' => E cls d H') [] ρ H (qE g Q) (F as st)
/-- a body as a function; what was laid is forgotten where nothing else changed -/
def defF (nl : Nat) (m : MS) : FN := fun as st => gcV st (match m (as.map some ++ List.replicate nl none) st with
  | .next _ st' => .ok .non st'
  | .ret v st' => .ok v st'
  | .exc c _ st' => .exc c st'
  | _ => .bad)
theorem RepVs.slots {g : G} {ρ : List Addr} {H : Hp} {as : List IV} {vs : List V} (r : RepVs g ρ H as vs) (nl : Nat) : SlR g ρ H (as.map some ++ List.replicate nl none) (vs.map some ++ List.replicate nl none) := by
  have hl := r.length
  refine ⟨by simp [hl], fun i x h => ?_⟩
  by_cases hi : i < as.length
  · rw [List.getElem?_append_left (by simpa using hi), List.getElem?_map] at h
    cases q : as[i]? with
    | none => rw [q] at h; cases h
    | some y =>
      rw [q] at h
      have e : y = x := Option.some.inj (Option.some.inj h)
      subst e
      obtain ⟨v, h1, h2⟩ := r.get q
      refine ⟨v, ?_, h2⟩
      rw [List.getElem?_append_left (by rw [List.length_map, hl]; exact hi), List.getElem?_map, h1]
      rfl
  · rw [List.getElem?_append_right (by rw [List.length_map]; omega), List.getElem?_replicate] at h
    split at h
    · cases h
    · cases h
section
variable {P : Program} {w : World} {K : PySem.W.Frag} {mg : Str → Option Value} {base : Heap}
theorem def_ok {g : G} {x qual : Str} {s : Stmt} {f : Addr} {fd : FuncData} {N ps : List Str} {k : Nat} {m : MS} (F : Fun K x qual s f fd) (S : FnScope N ps (defScope s))
    (hbody : ∀ (cdv : Value) (A : Around) (outer : List Env) (s0 : Shared) (H : Hp) (E : XK), Room k (A.deeper (envOfC qual (defScope s) s0.heap.objs.size f cdv)) →
      Takes (cxOf (L2.CX P w) P w K mg base N qual (defScope s) f cdv A outer s0 H E) (fun cls d _ H' => E cls d H') →
      PassesOwn (model P w) (A.deeper (envOfC qual (defScope s) s0.heap.objs.size f cdv)) (envOfC qual (defScope s) s0.heap.objs.size f cdv) (cxOf (L2.CX P w) P w K mg base N qual (defScope s) f cdv A outer s0 H E).xe →
      SB (cxOf (L2.CX P w) P w K mg base N qual (defScope s) f cdv A outer s0 H E) g (fun cls d _ H' => E cls d H') (defBody s) m) :
    FnOk P w K mg base (L2.CX P w) (k + 1) f fd ps (spOf g ps.length (defF (N.length - ps.length) m)) := by
  refine F.okX S (fun vs H Q E h => h.1) fun cdv A outer s0 H vs Q E hr h => ?_
  obtain ⟨hl, ρ, st, as, S1, r, wq⟩ := h
  have tk : Takes (cxOf (L2.CX P w) P w K mg base N qual (defScope s) f cdv A outer s0 H E) (fun cls d _ H' => E cls d H') := takes_of rfl rfl rfl rfl
  refine ⟨_, hbody cdv A outer s0 H E hr tk (passes_of rfl), ρ, as.map some ++ List.replicate (N.length - ps.length) none, st, S1, ?_, ?_⟩
  · unfold L2.start
    rw [hl]
    exact r.slots _
  · have w1 := want.gcE S1 wq
    cases e : m (as.map some ++ List.replicate (N.length - ps.length) none) st with
    | next sl st' => rw [e] at w1; exact fun ρ' H' σ' e' S' L' => w1 ρ' H' e' S' .non (by unfold RepV; rfl)
    | ret v st' => rw [e] at w1; exact fun ρ' H' x e' S' r' => w1 ρ' H' e' S' x r'
    | brk sl st' => rw [e] at w1; exact False.elim w1
    | cont sl st' => rw [e] at w1; exact False.elim w1
    | exc c sl st' => rw [e] at w1; exact fun ρ' H' σ' C e' S' L' hc => w1 ρ' H' C e' S' hc
    | bad => rw [e] at w1; exact False.elim w1
end

/-- a def of the module that keeps the promise of F -/
structure DefAt (P : Program) (w : World) (K : PySem.W.Frag) (mg : Str → Option Value) (base : Heap) (g : G) (k : Nat) (x : Str) (n : Nat) (F : FN) : Prop where
  ex : ∃ f fd ps, mg x = some (.ref f) ∧ PySem.W.keepIn K (.ref f) = true ∧ Binds K fd ps [] ∧ ps.length = n ∧ FnOk P w K mg base (L2.CX P w) k f fd ps (spOf g ps.length F)
def arity (n : Nat) (F : FN) : FN := fun as st => if as.length = n then F as st else .bad
def mDef (n : Nat) (F : FN) (a : MA) : ME := fun sl st => gcV st ((a sl st).andThen (arity n F))
section
variable {X : Cx} {g : G} {W : WX} {e o : Expr} {es : List Expr} {a : MA} {mo : ME} {F : FN} {k n : Nat} {x m : Str} {p pos apos : Pos}
theorem sp_of {σ : L2.St} {H : Hp} {Q : VK} {ρ : List Addr} {st : Store} {as : List IV} {vs : List V} (S : StR g ρ st H) (r : RepVs g ρ H as vs) (w : want g W σ ρ H (qE g Q) (arity n F as st)) : spOf g n F vs H Q (WE W σ) := by
  unfold arity at w
  by_cases hn : as.length = n
  · rw [if_pos hn] at w
    refine ⟨by rw [r.length]; exact hn, ρ, st, as, S, r, ?_⟩
    cases e : F as st with
    | ok v st' => rw [e] at w; exact w
    | exc c st' => rw [e] at w; exact w
    | bad => rw [e] at w; exact w
  · rw [if_neg hn] at w
    exact False.elim w
theorem s_call (D : DefAt X.prog X.w X.K X.mg X.base g k x n F) (hr : Room k X.A) (tk : Takes X W) (ha : SA X g W (e :: es) a) (hg : Gl X x := by rfl)
    (hdb : (x == ("__debug__" : Str)) = false := by decide) (he : starEach (e :: es) X.env = (false, eval e X.env) :: starEach es X.env := by rfl) (hpl : (backTo pos (starEach es X.env)).any (·.1) = false := by rfl) : SE X g W (.Call (.Name x p) (e :: es) [] pos) (mDef n F a) := by
  obtain ⟨f, fd, ps, hm, hk, hb, hl, Fk⟩ := D.ex
  subst hl
  exact PE.imp (pe_callS Fk hr hg hm hk hb (fun σ => passAt tk σ) ha hdb he hpl) fun σ H Q ⟨ρ, sl, st, S, L, w⟩ =>
    runA S L (want.gcE S w) fun vs st1 ρ1 H1 xs e1 S1 L1 r1 w1 => sp_of S1 r1 w1
theorem s_call0 (D : DefAt X.prog X.w X.K X.mg X.base g k x n F) (hr : Room k X.A) (tk : Takes X W) (hg : Gl X x := by rfl)
    (hdb : (x == ("__debug__" : Str)) = false := by decide) : SE X g W (.Call (.Name x p) [] [] pos) (mDef n F aNil) := by
  obtain ⟨f, fd, ps, hm, hk, hb, hl, Fk⟩ := D.ex
  subst hl
  refine ⟨fun pins s σ H Q I h => ?_⟩
  refine wpAny_Call_Name_kw (ld_glob I hg hm ?_ hdb)
  refine PySem.W.callWith_K0 I.kIn hk (run_fnS (us := []) (E := WE W) Fk hr hb (passAt tk σ) I .nil ?_)
  obtain ⟨ρ, sl, st, S, L, w⟩ := h
  exact sp_of S RepVs.nil_mk (want.gcE S w)

/-! ### instances -/
/-- the class number c of the program: what the walk asks of it -/
structure ClsAt (K : PySem.W.Frag) (g : G) (c : Nat) : Prop where
  ok : ∀ C, g.cls[c]? = some C → Cls K C
def fieldV (c f : Nat) (v : IV) (st : Store) : Option IV := match v with
  | .loc n => match st[n]? with
    | some (.ins c' fs) => if c' = c then fs.lookup f else none
    | _ => none
  | _ => none
/-- o.f, o of the class number c -/
def mFld (c f : Nat) (m : ME) : ME := fun sl st => (m sl st).andThen fun v st1 => match fieldV c f v st1 with
  | some x => .ok x st1
  | none => .bad
theorem RepF.lookup {g : G} {ρ : List Addr} {H : Hp} {f : Nat} {nm : Str} (hf : g.fld[f]? = some nm) : ∀ {fs : List (Nat × IV)} {ks : List (Str × V)} {x : IV}, RepF g ρ H fs ks → fs.lookup f = some x → ∃ v, ks.lookup nm = some v ∧ RepV g ρ H x v
  | [], _, _, _, h => by simp at h
  | q :: fs, ks, x, r, h => by
    obtain ⟨k, v, r', rfl, h1, h2, h3⟩ := r
    by_cases e : f = q.1
    · subst e
      rw [hf] at h1
      cases h1
      rw [List.lookup_cons, beq_self_eq_true] at h
      simp only [Option.some.injEq] at h
      subst h
      exact ⟨v, by rw [List.lookup_cons, beq_self_eq_true], h2⟩
    · have ne : nm ≠ k := fun z => by
        subst z
        obtain ⟨l1, e1⟩ := List.getElem?_eq_some_iff.mp hf
        obtain ⟨l2, e2⟩ := List.getElem?_eq_some_iff.mp h1
        exact e ((List.getElem_inj g.fnd).mp (e1.trans e2.symm))
      rw [List.lookup_cons, beq_eq_false_iff_ne.mpr e] at h
      obtain ⟨v', h4, h5⟩ := RepF.lookup hf h3 h
      exact ⟨v', by rw [List.lookup_cons, beq_eq_false_iff_ne.mpr ne]; exact h4, h5⟩
theorem RepF.lookup_none {g : G} {ρ : List Addr} {H : Hp} {nm : Str} (hf : ∀ f : Nat, g.fld[f]? ≠ some nm) : ∀ {fs : List (Nat × IV)} {ks : List (Str × V)}, RepF g ρ H fs ks → ks.lookup nm = none
  | [], _, r => by
    unfold RepF at r
    subst r
    rfl
  | q :: fs, ks, r => by
    obtain ⟨k, v, r', rfl, h1, h2, h3⟩ := r
    have ne : nm ≠ k := fun z => by
      subst z
      exact hf _ h1
    rw [List.lookup_cons, beq_eq_false_iff_ne.mpr ne]
    exact RepF.lookup_none hf h3
theorem StR.ins {g : G} {ρ : List Addr} {st : Store} {H : Hp} (S : StR g ρ st H) {n c : Nat} {a : Addr} {fs : List (Nat × IV)} (ha : ρ[n]? = some a) (hc : st[n]? = some (.ins c fs)) : ∃ C dx ks, H a = some (.ins C dx ks) ∧ g.cls[c]? = some C ∧ RepF g ρ H fs ks := by
  obtain ⟨o, h1, h2⟩ := S.cell n a _ ha hc
  unfold RepC at h2
  obtain ⟨C, dx, ks, rfl, h3, h4⟩ := h2
  exact ⟨C, dx, ks, h1, h3, h4⟩
theorem s_fld {c f : Nat} {nm : Str} (T : ClsAt X.K g c) (hn : ∀ C, g.cls[c]? = some C → NoAttr X.K C nm) (hf : g.fld[f]? = some nm) (ho : SE X g W o mo) (hb : attributeBase o nm X.env (eval o X.env) = eval o X.env := by rfl) : SE X g W (.Attribute o nm pos) (mFld c f mo) :=
  PE.imp (pe_fld ho hb) fun σ H Q ⟨ρ, sl, st, S, L, w⟩ => runE S L w fun v st1 ρ1 H1 x e1 S1 L1 r1 w1 => by
    cases v with
    | loc n =>
      unfold RepV at r1
      obtain ⟨a, rfl, ha⟩ := r1
      simp only [fieldV] at w1
      cases ec : st1[n]? with
      | none => rw [ec] at w1; exact False.elim w1
      | some cl =>
        rw [ec] at w1
        cases cl with
        | ins c' fs =>
          simp only at w1
          by_cases hc : c' = c
          · rw [if_pos hc] at w1
            subst hc
            obtain ⟨C, dx, ks, h1, h2, h3⟩ := S1.ins ha ec
            cases ef : fs.lookup f with
            | none => rw [ef] at w1; exact False.elim w1
            | some y =>
              rw [ef] at w1
              obtain ⟨v, h4, h5⟩ := h3.lookup hf ef
              exact ⟨a, C, dx, ks, v, rfl, h1, T.ok C h2, hn C h2, h4, w1 ρ1 H1 (Ext.refl _ _) S1 v h5⟩
          · rw [if_neg hc] at w1; exact False.elim w1
        | _ => exact False.elim w1
    | _ => exact False.elim w1
/-- o.f = v -/
def putN (f : Nat) (v : IV) : List (Nat × IV) → List (Nat × IV)
  | [] => [(f, v)]
  | p :: r => if p.1 = f then (f, v) :: r else p :: putN f v r
def setFld (c f : Nat) (o v : IV) (st : Store) : Option Store := match o with
  | .loc n => match st[n]? with
    | some (.ins c' fs) => if c' = c ∧ fs.length < 1000 then some (st.set n (.ins c (putN f v fs))) else none
    | _ => none
  | _ => none
def mFldSet (c f : Nat) (mo mv : ME) : MS := fun sl st => (mv sl st).out sl fun v st1 => (mo sl st1).out sl fun o st2 => match setFld c f o v st2 with
  | some st3 => .next sl st3
  | none => .bad
theorem RepF.put {g : G} {ρ : List Addr} {H : Hp} {f : Nat} {nm : Str} (hf : g.fld[f]? = some nm) {y : IV} {z : V} (ry : RepV g ρ H y z) : ∀ {fs : List (Nat × IV)} {ks : List (Str × V)}, RepF g ρ H fs ks → RepF g ρ H (putN f y fs) (putF nm z ks)
  | [], ks, r => by
    unfold RepF at r
    subst r
    exact ⟨nm, z, [], rfl, hf, ry, by unfold RepF; rfl⟩
  | q :: fs, ks, r => by
    obtain ⟨k, v, r', rfl, h1, h2, h3⟩ := r
    by_cases e : q.1 = f
    · have ek : k = nm := by
        rw [e, hf] at h1
        cases h1
        rfl
      unfold putN putF
      rw [if_pos e, if_pos ek]
      subst ek
      exact ⟨_, z, r', rfl, hf, ry, h3⟩
    · have ek : k ≠ nm := fun z => by
        subst z
        obtain ⟨l1, e1⟩ := List.getElem?_eq_some_iff.mp hf
        obtain ⟨l2, e2⟩ := List.getElem?_eq_some_iff.mp h1
        exact e ((List.getElem_inj g.fnd).mp (e2.trans e1.symm))
      unfold putN putF
      rw [if_neg e, if_neg ek]
      exact ⟨k, v, _, rfl, h1, h2, RepF.put hf ry h3⟩
theorem RepF.length {g : G} {ρ : List Addr} {H : Hp} : ∀ {fs : List (Nat × IV)} {ks : List (Str × V)}, RepF g ρ H fs ks → ks.length = fs.length
  | [], ks, r => by unfold RepF at r; subst r; rfl
  | q :: fs, ks, r => by
    obtain ⟨k, v, r', rfl, h1, h2, h3⟩ := r
    rw [List.length_cons, List.length_cons, RepF.length h3]
theorem s_fldset {c f : Nat} {nm : Str} {v : Expr} {mv : ME} {pos' : Pos} (T : ClsAt X.K g c) (hn : ∀ C, g.cls[c]? = some C → NoAttr X.K C nm) (hf : g.fld[f]? = some nm) (ho : SE X g W o mo) (hv : SE X g W v mv)
    (hs : swapsWith v (some (.Attribute o nm pos')) pos.line X.env = pure false := by rfl) : SS X g W (.Assign [.Attribute o nm pos'] v pos) (mFldSet c f mo mv) :=
  PS.imp (ps_fld ho hv hs) fun D σ H ⟨ρ, sl, st, S, L, w⟩ => runES S L w fun y st1 ρ1 H1 z e1 S1 L1 r1 w1 => runES S1 L1 w1 fun ov st2 ρ2 H2 x e2 S2 L2 r2 w2 => by
    cases ov with
    | loc n =>
      unfold RepV at r2
      obtain ⟨a, rfl, ha⟩ := r2
      simp only [setFld] at w2
      cases ec : st2[n]? with
      | none => rw [ec] at w2; exact False.elim w2
      | some cl =>
        rw [ec] at w2
        cases cl with
        | ins c' fs =>
          simp only at w2
          by_cases hc : c' = c ∧ fs.length < 1000
          · rw [if_pos hc] at w2
            obtain ⟨rfl, hl⟩ := hc
            obtain ⟨C, dx, ks, h1, h2, h3⟩ := S2.ins ha ec
            have hm : a ∈ ρ2 := List.mem_of_getElem? ha
            refine ⟨a, C, dx, ks, rfl, h1, T.ok C h2, hn C h2, by rw [h3.length]; exact hl, w2 ρ2 _ σ (Ext.put hm) (S2.put ha ⟨C, dx, _, rfl, h2, h3.put hf (r1.ext e2)⟩) (L2.ext (Ext.put hm))⟩
          · rw [if_neg hc] at w2; exact False.elim w2
        | _ => exact False.elim w2
    | _ => exact False.elim w2

/-- a method of the class number c -/
structure MethAt (P : Program) (w : World) (K : PySem.W.Frag) (mg : Str → Option Value) (base : Heap) (g : G) (k : Nat) (c : Nat) (m : Str) (n : Nat) (F : FN) : Prop where
  ex : ∃ C f fd ps, g.cls[c]? = some C ∧ Cls K C ∧ Meth K C m f ∧ Binds K fd ps [] ∧ ps.length = n ∧ FnOk P w K mg base (L2.CX P w) k f fd ps (spOf g ps.length F)
  nf : ∀ i : Nat, g.fld[i]? ≠ some m
def isIns (c : Nat) (v : IV) (st : Store) : Bool := match v with
  | .loc n => match st[n]? with
    | some (.ins c' _) => decide (c' = c)
    | _ => false
  | _ => false
def mMeth (c n : Nat) (F : FN) (mo : ME) (a : MA) : ME := fun sl st => gcV st ((mo sl st).andThen fun v st1 => if isIns c v st1 = true then (a sl st1).andThen fun xs st2 => arity n F (v :: xs) st2 else .bad)
theorem isIns_eq {c : Nat} {v : IV} {st : Store} (h : isIns c v st = true) : ∃ n fs, v = .loc n ∧ st[n]? = some (.ins c fs) := by
  unfold isIns at h
  split at h
  · split at h
    · rename_i hc
      have := of_decide_eq_true h
      subst this
      exact ⟨_, _, rfl, hc⟩
    · cases h
  · cases h
theorem s_meth {c : Nat} {pl : Sem Bool} (D : MethAt X.prog X.w X.K X.mg X.base g k c m n F) (hr : Room k X.A) (tk : Takes X W) (ho : SE X g W o mo) (ha : SA X g W (e :: es) a)
    (hst : starEach (e :: es) X.env = (false, eval e X.env) :: starEach es X.env := by rfl) (hpl : (backTo pos (starEach es X.env)).any (·.1) = false := by rfl)
    (ht : eval (.Call (.Attribute o m apos) (e :: es) [] pos) X.env = (do
      let ov ← eval o X.env
      standAt apos.atName
      let (f, first) ← holding [ov] (getMethod ov m pl)
      callWith pos f first (backTo pos (starEach (e :: es) X.env)) (backToKw pos (keywordEach [] X.env))) := by rfl) :
    SE X g W (.Call (.Attribute o m apos) (e :: es) [] pos) (mMeth c n F mo a) := by
  obtain ⟨C, f, fd, ps, hC, hc, hm, hb, hl, Fk⟩ := D.ex
  subst hl
  refine ⟨fun pins s σ H Q I h => ?_⟩
  obtain ⟨ρ, sl, st, S, L, w⟩ := h
  refine PySem.W.methodCall_KW (pl := pl) (thn (ho.run pins s σ H (fun x H1 => ∃ a' dx fs, x = .ref a' ∧ H1 a' = some (.ins C dx fs) ∧ fs.lookup m = none ∧ rdA g W a σ H1 fun vs H2 => spOf g ps.length F (x :: vs) H2 Q (WE W σ)) I (runE S L (want.gcE S w) fun v st1 ρ1 H1 x e1 S1 L1 r1 w1 => ?_)) fun u s1 ⟨x, H1, I1, rx, a', dx, fs, ex, ea, l, q⟩ => ?_) ht
  · by_cases hi : isIns c v st1 = true
    · rw [if_pos hi] at w1
      obtain ⟨n, fs, rfl, hn⟩ := isIns_eq hi
      unfold RepV at r1
      obtain ⟨ad, rfl, had⟩ := r1
      obtain ⟨C', dx, ks, h1, h2, h3⟩ := S1.ins had hn
      rw [hC] at h2
      cases h2
      refine ⟨ad, dx, ks, rfl, h1, h3.lookup_none D.nf, runA S1 L1 w1 fun vs st2 ρ2 H2 xs e2 S2 L2 r2 w2 => sp_of S2 ?_ w2⟩
      unfold RepVs RepV
      exact ⟨.ref ad, xs, rfl, ⟨ad, rfl, e2.get had⟩, r2⟩
    · rw [if_neg hi] at w1; exact False.elim w1
  · subst ex
    obtain rfl : u = Value.ref a' := rx
    refine getmeth_ok I1 ea hc hm l ?_
    refine PySem.W.callWith_K (first := [.ref a']) (h₀ := X.base) I.ok.mod.kin hm.kp (thn (ha.run pos pins s1 σ H1 _ I1 q) fun us s2 ⟨vs, H2, I2, r, q2⟩ => ⟨I2.kIn, ?_⟩) hst hpl
    exact run_fnS (us := .ref a' :: us) (vs := .ref a' :: vs) (E := WE W) Fk hr hb (passAt tk σ) I2 (.cons rfl r) q2
theorem s_meth0 {c : Nat} {pl : Sem Bool} (D : MethAt X.prog X.w X.K X.mg X.base g k c m n F) (hr : Room k X.A) (tk : Takes X W) (ho : SE X g W o mo)
    (ht : eval (.Call (.Attribute o m apos) [] [] pos) X.env = (do
      let ov ← eval o X.env
      standAt apos.atName
      let (f, first) ← holding [ov] (getMethod ov m pl)
      callWith pos f first (backTo pos (starEach [] X.env)) (backToKw pos (keywordEach [] X.env))) := by rfl) :
    SE X g W (.Call (.Attribute o m apos) [] [] pos) (mMeth c n F mo aNil) := by
  obtain ⟨C, f, fd, ps, hC, hc, hm, hb, hl, Fk⟩ := D.ex
  subst hl
  refine ⟨fun pins s σ H Q I h => ?_⟩
  obtain ⟨ρ, sl, st, S, L, w⟩ := h
  refine PySem.W.methodCall_KW (pl := pl) (thn (ho.run pins s σ H (fun x H1 => ∃ a' dx fs, x = .ref a' ∧ H1 a' = some (.ins C dx fs) ∧ fs.lookup m = none ∧ spOf g ps.length F [x] H1 Q (WE W σ)) I (runE S L (want.gcE S w) fun v st1 ρ1 H1 x e1 S1 L1 r1 w1 => ?_)) fun u s1 ⟨x, H1, I1, rx, a', dx, fs, ex, ea, l, q⟩ => ?_) ht
  · by_cases hi : isIns c v st1 = true
    · rw [if_pos hi] at w1
      obtain ⟨n, fs, rfl, hn⟩ := isIns_eq hi
      unfold RepV at r1
      obtain ⟨ad, rfl, had⟩ := r1
      obtain ⟨C', dx, ks, h1, h2, h3⟩ := S1.ins had hn
      rw [hC] at h2
      cases h2
      refine ⟨ad, dx, ks, rfl, h1, h3.lookup_none D.nf, sp_of S1 ?_ w1⟩
      unfold RepVs RepV
      exact ⟨.ref ad, [], rfl, ⟨ad, rfl, had⟩, by unfold RepVs; rfl⟩
    · rw [if_neg hi] at w1; exact False.elim w1
  · subst ex
    obtain rfl : u = Value.ref a' := rx
    refine getmeth_ok I1 ea hc hm l ?_
    exact PySem.W.callWith_K0 (first := [.ref a']) I1.kIn hm.kp (run_fnS (us := [.ref a']) (vs := [.ref a']) (E := WE W) Fk hr hb (passAt tk σ) I1 (.cons rfl .nil) q)

/-- a new instance -/
structure MakeAt (P : Program) (w : World) (K : PySem.W.Frag) (mg : Str → Option Value) (base : Heap) (g : G) (k : Nat) (x : Str) (c : Nat) (n : Nat) (F : FN) : Prop where
  ex : ∃ C f fd ps, g.cls[c]? = some C ∧ mg x = some (.ref C) ∧ Mk K C f ∧ Binds K fd ps [] ∧ ps.length = n ∧ FnOk P w K mg base (L2.CX P w) k f fd ps (spOf g ps.length F)
def mMake (c n : Nat) (F : FN) (a : MA) : ME := fun sl st => (a sl st).andThen fun xs st1 => (arity n F (.loc st1.length :: xs) (st1 ++ [.ins c []])).andThen fun v st2 => match v with
  | .non => .ok (.loc st1.length) st2
  | _ => .bad
theorem run_makeS {C f : Addr} {fd : FuncData} {ps : List Str} {sp : Sp} {E : L2.St → XK} {pins : List (Addr × Obj)} {σ : L2.St} {H : Hp} {s : Shared} {Q : VK} {us : List Value} {vs : List V} (M : Mk X.K C f) (Fk : FnOk X.prog X.w X.K X.mg X.base (L2.CX X.prog X.w) k f fd ps sp) (hr : Room (k + 1) X.A) (hb : Binds X.K fd ps [])
    (hx : PassesAt (L2.CX X.prog X.w) X σ (E σ)) (I : Inv X pins σ H s) (r : Vals vs us)
    (h : ∀ x dx, H x = none → H dx = none → dx ≠ x → sp (.ref x :: vs) (upd (upd H dx (.own x)) x (.ins C dx [])) (fun v H2 => v = .non ∧ Q (.ref x) H2) (E σ)) :
    wpAny (model X.prog X.w) X.A (PySem.call (.ref C) us) (EP X pins σ Q) X.xe s := by
  have hq := h (s.heap.objs.size + 1) s.heap.objs.size (I.hok.fresh (Nat.le_succ _)) (I.hok.fresh (Nat.le_refl _)) (Nat.ne_of_lt (Nat.lt_succ_self _))
  have I2 := Inv.made (C := C) I
  have r2 : Vals (V.ref (s.heap.objs.size + 1) :: vs) (Value.ref (s.heap.objs.size + 1) :: us) := .cons rfl r
  have hl : (Value.ref (s.heap.objs.size + 1) :: us).length = ps.length := by
    have e := r2.length
    rw [Fk.len _ _ _ _ hq] at e
    exact e.symm
  have b := hb _ (Value.ref (s.heap.objs.size + 1) :: us) I2.kIn (by rw [List.append_nil]; exact hl)
  rw [List.append_nil] at b
  refine wpAny_call (make_map (f := f) I.kIn M.makes M.init (beq_iff_eq.mp M.fn) (codeAny_mono (Fk.run _ X.stack _ _ ⟨Value.ref (s.heap.objs.size + 1) :: us, []⟩ (Value.ref (s.heap.objs.size + 1) :: us) _ _ (E σ) (hr.make C us [])
    (I2.env0.make C us []) b r2 hq) fun r s' hq' => ?_))
  cases r with
  | error e => exact hx pins _ _ e s' I2 hq'
  | ok fl =>
    cases fl with
    | ret u =>
      obtain ⟨v, H', I3, rv, ev, q3⟩ := I2.after hq'
      subst ev
      exact ⟨rv, ⟨V.ref (s.heap.objs.size + 1), H', I3, rfl, q3⟩⟩
    | next => exact False.elim hq'
    | brk => exact False.elim hq'
    | cont => exact False.elim hq'
theorem Ext.ins {g : G} {ρ : List Addr} {st : Store} {H : Hp} {x dx C : Addr} {c : Nat} (S : StR g ρ st H) (hC : g.cls[c]? = some C) (h1 : H x = Option.none) (h2 : H dx = Option.none) (ne : dx ≠ x) :
    Ext ρ H (ρ ++ [x]) (upd (upd H dx (.own x)) x (.ins C dx [])) ∧ StR g (ρ ++ [x]) (st ++ [.ins c []]) (upd (upd H dx (.own x)) x (.ins C dx [])) := by
  have h1' : (upd H dx (.own x)) x = Option.none := by rw [upd_ne (Ne.symm ne)]; exact h1
  exact ⟨(Ext.new h2).trans (Ext.lay h1'), (S.new h2).lay h1' ⟨C, dx, [], rfl, hC, by unfold RepF; rfl⟩⟩
theorem make_of {c : Nat} {C : Addr} {σ : L2.St} {H : Hp} {Q : VK} {ρ : List Addr} {st : Store} {as : List IV} {vs : List V} (hC : g.cls[c]? = some C) (S : StR g ρ st H) (r : RepVs g ρ H as vs)
    (w : want g W σ ρ H (qE g Q) ((arity n F (.loc st.length :: as) (st ++ [.ins c []])).andThen fun v st2 => match v with | .non => .ok (.loc st.length) st2 | _ => .bad)) :
    ∀ x dx, H x = Option.none → H dx = Option.none → dx ≠ x → spOf g n F (.ref x :: vs) (upd (upd H dx (.own x)) x (.ins C dx [])) (fun v H2 => v = .non ∧ Q (.ref x) H2) (WE W σ) := fun x dx h1 h2 ne => by
  obtain ⟨e1, S1⟩ := Ext.ins (c := c) S hC h1 h2 ne
  have hx : (ρ ++ [x])[st.length]? = some x := by rw [← S.len, List.getElem?_concat_length]
  refine sp_of (W := W) (σ := σ) S1 (as := .loc st.length :: as) ?_ (want.step (want.later e1 w) fun v st2 ρ2 H2 e2 S2 w2 y ry => ?_)
  · unfold RepVs RepV
    exact ⟨.ref x, vs, rfl, ⟨x, rfl, hx⟩, r.ext e1⟩
  · cases v with
    | non =>
      unfold RepV at ry
      exact ⟨ry, w2 ρ2 H2 (Ext.refl _ _) S2 (.ref x) (by unfold RepV; exact ⟨x, rfl, e2.get hx⟩)⟩
    | _ => exact False.elim w2
theorem s_make {c : Nat} (D : MakeAt X.prog X.w X.K X.mg X.base g k x c n F) (hr : Room (k + 1) X.A) (tk : Takes X W) (ha : SA X g W (e :: es) a) (hg : Gl X x := by rfl)
    (hdb : (x == ("__debug__" : Str)) = false := by decide) (he : starEach (e :: es) X.env = (false, eval e X.env) :: starEach es X.env := by rfl) (hpl : (backTo pos (starEach es X.env)).any (·.1) = false := by rfl) : SE X g W (.Call (.Name x p) (e :: es) [] pos) (mMake c n F a) := by
  obtain ⟨C, f, fd, ps, hC, hm, M, hb, hl, Fk⟩ := D.ex
  subst hl
  refine ⟨fun pins s σ H Q I h => ?_⟩
  obtain ⟨ρ, sl, st, S, L, w⟩ := h
  refine wpAny_Call_Name_kw (ld_glob I hg hm ?_ hdb)
  refine PySem.W.callWith_K (h₀ := X.base) I.ok.mod.kin M.kp (thn (ha.run pos pins s σ H (fun vs H1 => ∀ x dx, H1 x = Option.none → H1 dx = Option.none → dx ≠ x → spOf g ps.length F (.ref x :: vs) (upd (upd H1 dx (.own x)) x (.ins C dx [])) (fun v H2 => v = .non ∧ Q (.ref x) H2) (WE W σ)) I
    (runA S L w fun vs st1 ρ1 H1 xs e1 S1 L1 r1 w1 => make_of hC S1 r1 w1)) fun us s1 ⟨vs, H1, I1, r, q⟩ => ⟨I1.kIn, ?_⟩) he hpl
  exact run_makeS (E := WE W) M Fk hr hb (passAt tk σ) I1 r q
theorem s_make0 {c : Nat} (D : MakeAt X.prog X.w X.K X.mg X.base g k x c n F) (hr : Room (k + 1) X.A) (tk : Takes X W) (hg : Gl X x := by rfl)
    (hdb : (x == ("__debug__" : Str)) = false := by decide) : SE X g W (.Call (.Name x p) [] [] pos) (mMake c n F aNil) := by
  obtain ⟨C, f, fd, ps, hC, hm, M, hb, hl, Fk⟩ := D.ex
  subst hl
  refine ⟨fun pins s σ H Q I h => ?_⟩
  obtain ⟨ρ, sl, st, S, L, w⟩ := h
  refine wpAny_Call_Name_kw (ld_glob I hg hm ?_ hdb)
  exact PySem.W.callWith_K0 I.kIn M.kp (run_makeS (us := []) (E := WE W) M Fk hr hb (passAt tk σ) I .nil (make_of hC S RepVs.nil_mk w))
/-- a property of the class number c: its getter raises nothing -/
structure PropAt (P : Program) (w : World) (K : PySem.W.Frag) (mg : Str → Option Value) (base : Heap) (g : G) (k : Nat) (c : Nat) (m : Str) (F : FN) : Prop where
  ex : ∃ C p f fd ps, g.cls[c]? = some C ∧ Cls K C ∧ PropOf K C m p f ∧ Binds K fd ps [] ∧ ps.length = 1 ∧ FnOk P w K mg base (L2.CX P w) k f fd ps (spOf g ps.length F)
def mProp (c : Nat) (F : FN) (mo : ME) : ME := fun sl st => gcV st ((mo sl st).andThen fun v st1 => if isIns c v st1 = true then calmR (F [v] st1) else .bad)
theorem s_prop {c : Nat} (D : PropAt X.prog X.w X.K X.mg X.base g k c m F) (hr : Room (k + 1) X.A) (ho : SE X g W o mo) (hb : attributeBase o m X.env (eval o X.env) = eval o X.env := by rfl) : SE X g W (.Attribute o m pos) (mProp c F mo) := by
  obtain ⟨C, p, f, fd, ps, hC, hc, hp, hbi, hl, Fk⟩ := D.ex
  have passE : Passes (L2.CX X.prog X.w) X.nox (fun _ _ _ => False) := passL
  refine PE.imp (pe_prop (dvs := []) (ds := []) ho hc hp Fk hr hbi .nil passE hb) fun σ H Q ⟨ρ, sl, st, S, L, w⟩ => runE S L (want.gcE S w) fun v st1 ρ1 H1 x e1 S1 L1 r1 w1 => ?_
  by_cases hi : isIns c v st1 = true
  · rw [if_pos hi] at w1
    obtain ⟨n, fs, rfl, hn⟩ := isIns_eq hi
    have r1' := r1
    unfold RepV at r1
    obtain ⟨ad, rfl, had⟩ := r1
    obtain ⟨C', dx, ks, h1, h2, h3⟩ := S1.ins had hn
    rw [hC] at h2
    cases h2
    refine ⟨ad, dx, ks, rfl, h1, by rw [hl]; rfl, ρ1, st1, [.loc n], S1, by unfold RepVs; exact ⟨_, [], rfl, r1', by unfold RepVs; rfl⟩, ?_⟩
    exact want.calm w1
  · rw [if_neg hi] at w1; exact False.elim w1
end

/-! ### raise, try -/
def mRaise (c : Nat) : MS := fun sl st => .exc c sl st
/-- the error class number c, called x -/
structure ExcAt (K : PySem.W.Frag) (mg : Str → Option Value) (g : G) (x : Str) (c : Nat) : Prop where
  ex : ∃ C, g.exc[c]? = some C ∧ mg x = some (.ref C) ∧ PySem.W.keepIn K (.ref C) = true ∧ PySem.W.excIn K C [.type "ValueError", .type "Exception", .type "BaseException", .type "object"] "ValueError.__new__" = true ∧
    PySem.W.subIn K (.ref C) (.type "BaseException") = some true ∧ PySem.W.typeIn K (.ref C) = some (.type "type")
section
variable {X : Cx} {g : G} {W : WX} {x t : Str} {c j : Nat} {p p2 pos pos' : Pos}
theorem s_raise (T : ExcAt X.K X.mg g x c) (hc : X.calm = true) (tk : Takes X W) (hg : Gl X x := by rfl) (hdb : (x == ("__debug__" : Str)) = false := by decide) : SS X g W (.Raise (some (.Call (.Name x p) [.Constant (.str t) j p2] [] pos)) none pos') (mRaise c) := by
  obtain ⟨C, hC, hm, hk, hx, hs, ht⟩ := T.ex
  exact PS.imp (ps_raise hc tk (pmk_own PySem.F.excBase_ValueError hx hm hk (raises_own hs ht) hg hdb)) fun D σ H ⟨ρ, sl, st, S, L, w⟩ => w ρ H σ C (Ext.refl _ _) S L hC
/-- try: body, except one class: suite; which classes are caught -/
def noExc (o : Out) : Out := match o with
  | .exc _ _ _ => .bad
  | o => o
def mTry (body : MS) (catches : Nat → Bool) (suite : Nat → MS) : MS := fun sl st => match body sl st with
  | .exc c sl1 st1 => if catches c = true then noExc (suite c sl1 st1) else .exc c sl1 st1
  | o => o
theorem s_try {e : Str} {C : Value} {body suite : List Stmt} {b0 : Stmt} {np : Pos} {mb : MS} {catches : Nat → Bool} {ms : Nat → MS} (hs : X.stack = X.env :: X.outer) (hf : X.env.frame = some X.env.locals) (hc : Names X e C) (tk : Takes X W)
    (hx : ∀ (i : Nat) (D : Addr), g.exc[i]? = some D → PySem.W.exmOne X.K (.ref D) C = some (catches i))
    (hb : ∀ (W' : WX) (pn : List (Addr × Obj)) (xe : Value → Shared → Prop), Takes (X.tr pn xe) W' → PassesOwn (model X.prog X.w) X.A X.env xe → SB (X.tr pn xe) g W' body mb)
    (hsu : ∀ (i : Nat) (D : Addr), g.exc[i]? = some D → ∀ (a : Addr) (oe : Obj) (pn : List (Addr × Obj)), Zc (.ref D) none oe → (∃ vs, oe.data = .fields vs) → SB (X.suite a ((a, oe) :: pn)) g (fun _ _ _ _ => False) (b0 :: suite) (ms i)) :
    SS X g W (.Try body [.ExceptHandler (some (.Name e np)) none (b0 :: suite) pos'] [] [] pos) (mTry mb catches ms) := by
  refine PS.imp (ps_try_only (tb := fun W' => rdS g W' mb) (ts := fun a cls d D σ H => d = none ∧ ∃ i D', cls = .ref D' ∧ g.exc[i]? = some D' ∧ rdS g (fun _ _ _ _ => False) (ms i) D σ H) hs hf hc tk hb ?_) fun D σ H ⟨ρ, sl, st, S, L, w⟩ => ?_
  · intro a oe cls d pn hz hfv
    refine ⟨fun pins s σ H D I h => ?_⟩
    obtain ⟨rfl, i, D', rfl, hi, h⟩ := h
    exact (hsu i D' hi a oe pn hz hfv).run pins s σ H D I h
  · refine ⟨ρ, sl, st, S, L, ?_⟩
    unfold mTry at w
    cases eb : mb sl st with
    | next sl1 st1 => rw [eb] at w; exact w
    | ret v st1 => rw [eb] at w; exact w
    | brk sl1 st1 => rw [eb] at w; exact w
    | cont sl1 st1 => rw [eb] at w; exact w
    | bad => rw [eb] at w; exact w
    | exc i sl1 st1 =>
      rw [eb] at w
      simp only at w
      intro ρ' H' σ' D' e' S' L' hi
      refine ⟨catches i, hx i D' hi, fun hcb a hna => ⟨rfl, i, D', rfl, hi, ρ', sl1, st1, S', L', ?_⟩, fun hcb => ?_⟩
      · rw [if_pos hcb] at w
        have w2 := wantS.later e' w
        -- nothing may be raised by the suite
        cases em : ms i sl1 st1 with
        | exc i2 sl2 st2 => rw [em] at w2; exact False.elim w2
        | _ => rw [em] at w2; exact w2
      · rw [if_neg (by rw [hcb]; decide)] at w
        exact w ρ' H' σ' D' e' S' L' hi
end
end Mi

set_option Elab.async false
set_option linter.all false
set_option maxRecDepth 100000
set_option maxHeartbeats 2000000
/-! Mi5: operations on values. -/
namespace Mi
open PySem PySem.Spec PyProof.Rows L2

theorem OpR.imp {X : Cx} {f : Value → Value → Sem Value} {r r' : R2} (h : OpR X f r) (i : ∀ x y H Q, r' x y H Q → r x y H Q) : OpR X f r' := fun pins s σ H x y v u Q I rx ry w => h pins s σ H x y v u Q I rx ry (i x y H Q w)
theorem IxR.imp {X : Cx} {r r' : R2} (h : IxR X r) (i : ∀ x y H Q, r' x y H Q → r x y H Q) : IxR X r' := fun a b pins s σ H x y v u Q I rx ry w => h a b pins s σ H x y v u Q I rx ry (i x y H Q w)
theorem UnR.imp {X : Cx} {f : Value → Sem Value} {r r' : V → Hp → VK → Prop} (h : UnR X f r) (i : ∀ x H Q, r' x H Q → r x H Q) : UnR X f r' := fun pins s σ H x v Q I rx w => h pins s σ H x v Q I rx (i x H Q w)
theorem CallR.imp {X : Cx} {f : Value} {r r' : List V → Hp → VK → Prop} (h : CallR X f r) (i : ∀ x H Q, r' x H Q → r x H Q) : CallR X f r' := fun pins s σ H x v Q I rx w => h pins s σ H x v Q I rx (i x H Q w)
theorem MtR.imp {X : Cx} {id : String} {r r' : V → List V → Hp → VK → Prop} (h : MtR X id r) (i : ∀ x xs H Q, r' x xs H Q → r x xs H Q) : MtR X id r' := fun pins s σ H x xs v us Q I rx rs w => h pins s σ H x xs v us Q I rx rs (i x xs H Q w)

section
variable {g : G} {ρ : List Addr} {H : Hp}
theorem RepVs.append : ∀ {xs ys : List IV} {vs ws : List V}, RepVs g ρ H xs vs → RepVs g ρ H ys ws → RepVs g ρ H (xs ++ ys) (vs ++ ws)
  | [], _, vs, _, r, q => by rw [r.nil]; exact q
  | x :: xs, ys, vs, ws, r, q => by
    obtain ⟨v, r', rfl, h1, h2⟩ := r.cons
    show RepVs g ρ H (x :: (xs ++ ys)) _
    unfold RepVs
    exact ⟨v, r' ++ ws, rfl, h1, RepVs.append h2 q⟩
theorem RepVs.drop : ∀ (n : Nat) {xs : List IV} {vs : List V}, RepVs g ρ H xs vs → RepVs g ρ H (xs.drop n) (vs.drop n)
  | 0, _, _, r => r
  | n + 1, [], _, r => by rw [r.nil]; exact RepVs.nil_mk
  | n + 1, x :: xs, _, r => by
    obtain ⟨v, r', rfl, h1, h2⟩ := r.cons
    exact RepVs.drop n h2
theorem RepVs.take : ∀ (n : Nat) {xs : List IV} {vs : List V}, RepVs g ρ H xs vs → RepVs g ρ H (xs.take n) (vs.take n)
  | 0, _, _, r => RepVs.nil_mk
  | n + 1, [], _, r => by rw [r.nil]; exact RepVs.nil_mk
  | n + 1, x :: xs, _, r => by
    obtain ⟨v, r', rfl, h1, h2⟩ := r.cons
    show RepVs g ρ H (x :: xs.take n) (v :: r'.take n)
    unfold RepVs
    exact ⟨v, r'.take n, rfl, h1, RepVs.take n h2⟩
theorem RepVs.cons_mk {x : IV} {xs : List IV} {v : V} {vs : List V} (h : RepV g ρ H x v) (hs : RepVs g ρ H xs vs) : RepVs g ρ H (x :: xs) (v :: vs) := by
  unfold RepVs
  exact ⟨v, vs, rfl, h, hs⟩
theorem RepVs.set : ∀ (n : Nat) {xs : List IV} {vs : List V} {x : IV} {v : V}, RepV g ρ H x v → RepVs g ρ H xs vs → RepVs g ρ H (xs.set n x) (vs.set n v)
  | _, [], _, _, _, _, r => by rw [r.nil]; exact RepVs.nil_mk
  | 0, y :: ys, _, _, _, h, r => by
    obtain ⟨v, r', rfl, h1, h2⟩ := r.cons
    exact h2.cons_mk h
  | n + 1, y :: ys, _, _, _, h, r => by
    obtain ⟨v, r', rfl, h1, h2⟩ := r.cons
    exact (RepVs.set n h h2).cons_mk h1
/-- new objects -/
theorem tup_at {p : Addr} {xs : List IV} {vs : List V} (hp : H p = none) {st : Store} (S : StR g ρ st H) (r : RepVs g ρ H xs vs) : RepV g ρ (upd H p (.tup vs)) (.tup xs) (.ref p) := by
  unfold RepV
  exact ⟨p, vs, rfl, .inl ⟨S.out hp, .inl upd_same⟩, r.ext (Ext.new hp)⟩
theorem loc_at {p : Addr} {st : Store} (S : StR g ρ st H) : RepV g (ρ ++ [p]) (upd H p o) (.loc st.length) (.ref p) := by
  unfold RepV
  exact ⟨p, rfl, by rw [← S.len, List.getElem?_concat_length]⟩
theorem RepV.int {i : Int} {v : V} (h : RepV g ρ H (.int i) v) : v = .int i := by unfold RepV at h; exact h
theorem RepV.str {s : List Nat} {v : V} (h : RepV g ρ H (.str s) v) : v = .str ⟨s.toArray⟩ := by unfold RepV at h; exact h
theorem RepV.bl {b : Bool} {v : V} (h : RepV g ρ H (.bl b) v) : v = .bl b := by unfold RepV at h; exact h
theorem RepV.non {v : V} (h : RepV g ρ H .non v) : v = .non := by unfold RepV at h; exact h
theorem RepV.tup {xs : List IV} {v : V} (h : RepV g ρ H (.tup xs) v) : ∃ a vs, v = .ref a ∧ TupAt g.K ρ H a vs ∧ RepVs g ρ H xs vs := by unfold RepV at h; exact h
theorem RepV.loc {n : Nat} {v : V} (h : RepV g ρ H (.loc n) v) : ∃ a, v = .ref a ∧ ρ[n]? = some a := by unfold RepV at h; exact h
theorem RepV.ro {xs : List IV} {v : V} (h : RepV g ρ H (.ro xs) v) : ∃ a vs, v = .ref a ∧ LstAt g.K ρ H a vs ∧ RepVs g ρ H xs vs := by unfold RepV at h; exact h
theorem rep_int {i : Int} : RepV g ρ H (.int i) (.int i) := by unfold RepV; rfl
theorem rep_bl {i : Bool} : RepV g ρ H (.bl i) (.bl i) := by unfold RepV; rfl
theorem rep_non : RepV g ρ H .non .non := by unfold RepV; rfl
theorem rep_str {s : List Nat} : RepV g ρ H (.str s) (.str ⟨s.toArray⟩) := by unfold RepV; rfl
/-- what an operation without new objects gives -/
theorem want_val {Q : VK} {v : IV} {x : V} {st : Store} (w : want g (fun _ _ _ _ => False) [] ρ H (qE g Q) (.ok v st)) (S : StR g ρ st H) (r : RepV g ρ H v x) : Q x H := w ρ H (Ext.refl _ _) S x r
end

def short (n : Nat) : Bool := decide (n ≤ 16777216)
theorem short_le {n : Nat} (h : short n = true) : n ≤ sizeLine := by rw [sizeLine_eq]; exact of_decide_eq_true h
/-- arithmetic -/
def oInt (C : Int → Int → Bool) (f : Int → Int → IV) : O2 := fun a b st => match a, b with
  | .int i, .int j => if C i j = true then .ok (f i j) st else .bad
  | _, _ => .bad
@[simp] theorem oInt_int (C f) (i j : Int) (st : Store) : oInt C f (.int i) (.int j) st = if C i j = true then .ok (f i j) st else .bad := rfl
def oAdd : O2 := fun a b st => match a, b with
  | .int i, .int j => .ok (.int (i + j)) st
  | .str s, .str t => if short (s.length + t.length) = true then .ok (.str (s ++ t)) st else .bad
  | .tup xs, .tup ys => if short (xs.length + ys.length) = true then .ok (.tup (xs ++ ys)) st else .bad
  | .loc m, .loc n => match st[m]?, st[n]? with
    | some (.lst xs), some (.lst ys) => if short (xs.length + ys.length) = true then .ok (.loc st.length) (st ++ [.lst (xs ++ ys)]) else .bad
    | _, _ => .bad
  | _, _ => .bad
@[simp] theorem oAdd_int (i j : Int) (st : Store) : oAdd (.int i) (.int j) st = .ok (.int (i + j)) st := rfl
@[simp] theorem oAdd_str (s t : List Nat) (st : Store) : oAdd (.str s) (.str t) st = if short (s.length + t.length) = true then .ok (.str (s ++ t)) st else .bad := rfl
@[simp] theorem oAdd_tup (s t : List IV) (st : Store) : oAdd (.tup s) (.tup t) st = if short (s.length + t.length) = true then .ok (.tup (s ++ t)) st else .bad := rfl
def cAny : Int → Int → Bool := fun _ _ => true
def cSmall (i : Int) : Bool := decide (-(2 ^ 64) < i) && decide (i < 2 ^ 64)
def cMul : Int → Int → Bool := fun i j => cSmall i || cSmall j
def cDiv : Int → Int → Bool := fun _ j => decide (0 < j) && decide (j < 1073741824)
def cMod : Int → Int → Bool := fun _ j => decide (0 < j)
def cPow : Int → Int → Bool := fun i j => decide (0 ≤ j) && decide (j ≤ 1000000) && decide (i.natAbs < 2 ^ 64)
abbrev oSub : O2 := oInt cAny fun i j => .int (i - j)
abbrev oMulI : O2 := oInt cMul fun i j => .int (i * j)
abbrev oDiv : O2 := oInt cDiv fun i j => .int (i / j)
abbrev oMod : O2 := oInt cMod fun i j => .int (i % j)
abbrev oPow : O2 := oInt cPow fun i j => .int (i ^ j.toNat)
abbrev oLtI : O2 := oInt cAny fun i j => .bl (decide (i < j))
section
variable {X : Cx} {g : G}
theorem p_intC {f : Value → Value → Sem Value} {C : Int → Int → Bool} {P : Int → Int → Prop} {v : Int → Int → V} {w : Int → Int → IV} (h : OpR X f (rI P v)) (hc : ∀ i j, C i j = true → P i j) (hv : ∀ i j ρ H, RepV g ρ H (w i j) (v i j)) : OpR X f (rd2 g (oInt C w)) :=
  OpR.imp h fun x y H Q ⟨ρ, st, a, b, S, ra, rb, wq⟩ => by
    unfold oInt at wq
    split at wq
    · rename_i i j
      by_cases c : C i j = true
      · rw [if_pos c] at wq
        exact ⟨i, j, ra.int, rb.int, hc i j c, want_val wq S (hv i j ρ H)⟩
      · rw [if_neg c] at wq; exact False.elim wq
    · exact False.elim wq
theorem p_int0 {f : Value → Value → Sem Value} {v : Int → Int → V} {w : Int → Int → IV} (h : OpR X f (rI0 v)) (hv : ∀ i j ρ H, RepV g ρ H (w i j) (v i j)) : OpR X f (rd2 g (oInt cAny w)) :=
  OpR.imp h fun x y H Q ⟨ρ, st, a, b, S, ra, rb, wq⟩ => by
    unfold oInt at wq
    split at wq
    · rename_i i j
      rw [if_pos (show cAny i j = true from rfl)] at wq
      exact ⟨i, j, ra.int, rb.int, want_val wq S (hv i j ρ H)⟩
    · exact False.elim wq
theorem p_sub : OpR X (binaryOp .Sub) (rd2 g oSub) := p_int0 op_sub fun _ _ _ _ => rep_int
theorem p_mulI : OpR X (binaryOp .Mult) (rd2 g oMulI) := p_intC op_mul (fun i j h => by
  unfold cMul cSmall at h
  simp only [Bool.or_eq_true, Bool.and_eq_true, decide_eq_true_eq] at h
  exact h) fun _ _ _ _ => rep_int
theorem p_div : OpR X (binaryOp .FloorDiv) (rd2 g oDiv) := p_intC op_fdiv (fun i j h => by
  unfold cDiv at h
  simp only [Bool.and_eq_true, decide_eq_true_eq] at h
  exact h) fun _ _ _ _ => rep_int
theorem p_mod : OpR X (binaryOp .Mod) (rd2 g oMod) := p_intC op_mod (fun i j h => of_decide_eq_true h) fun _ _ _ _ => rep_int
theorem p_pow : OpR X (binaryOp .Pow) (rd2 g oPow) := p_intC op_pow (fun i j h => by
  unfold cPow at h
  simp only [Bool.and_eq_true, decide_eq_true_eq] at h
  exact ⟨h.1.1, h.1.2, h.2⟩) fun _ _ _ _ => rep_int
theorem p_lt : OpR X (compareOp .Lt) (rd2 g (oInt cAny fun i j => .bl (decide (i < j)))) := p_int0 op_lt fun _ _ _ _ => rep_bl
theorem p_le : OpR X (compareOp .LtE) (rd2 g (oInt cAny fun i j => .bl (decide (i ≤ j)))) := p_int0 op_le fun _ _ _ _ => rep_bl
theorem p_gt : OpR X (compareOp .Gt) (rd2 g (oInt cAny fun i j => .bl (decide (j < i)))) := p_int0 op_gt fun _ _ _ _ => rep_bl
theorem p_ge : OpR X (compareOp .GtE) (rd2 g (oInt cAny fun i j => .bl (decide (j ≤ i)))) := p_int0 op_ge fun _ _ _ _ => rep_bl
theorem str_len (s : List Nat) : (⟨s.toArray⟩ : Str).length = s.length := by show s.toArray.size = _; simp
theorem str_app (s t : List Nat) : (⟨s.toArray⟩ : Str) ++ (⟨t.toArray⟩ : Str) = ⟨(s ++ t).toArray⟩ := by
  show (⟨s.toArray ++ t.toArray⟩ : Str) = _
  simp
theorem p_add (hK : X.K = g.K) : OpR X (binaryOp .Add) (rd2 g oAdd) := OpR.imp ((op_add.or op_add_str).or (op_catA.or op_cat)) fun x y H Q ⟨ρ, st, a, b, S, ra, rb, wq⟩ => by
  unfold oAdd at wq
  split at wq
  · exact .inl (.inl ⟨_, _, ra.int, rb.int, want_val wq S rep_int⟩)
  · rename_i s t
    by_cases c : short (s.length + t.length) = true
    · rw [if_pos c] at wq
      refine .inl (.inr ⟨_, _, ra.str, rb.str, by rw [str_len, str_len]; exact short_le c, ?_⟩)
      rw [str_app]
      exact want_val wq S rep_str
    · rw [if_neg c] at wq; exact False.elim wq
  · rename_i xs ys
    by_cases c : short (xs.length + ys.length) = true
    · rw [if_pos c] at wq
      obtain ⟨a, vs, rfl, h1, r1⟩ := ra.tup
      obtain ⟨b, ws, rfl, h2, r2⟩ := rb.tup
      refine .inr (.inl ⟨a, b, vs, ws, rfl, rfl, by rw [hK]; exact h1.sq, by rw [hK]; exact h2.sq, by rw [r1.length, r2.length]; exact short_le c, fun e => ?_, fun e e' => ?_, fun e e' p hp => ?_⟩)
      · subst e
        have e : xs = [] := List.length_eq_zero_iff.mp (by have := r1.length; simpa using this.symm)
        subst e
        exact want_val wq S rb
      · subst e'
        have e2 : ys = [] := List.length_eq_zero_iff.mp (by have := r2.length; simpa using this.symm)
        subst e2
        rw [List.append_nil] at wq
        exact want_val wq S ra
      · exact wq ρ _ (Ext.new hp) (S.new hp) _ (tup_at hp S (r1.append r2))
    · rw [if_neg c] at wq; exact False.elim wq
  · rename_i m n
    split at wq
    · rename_i xs ys h1 h2
      by_cases c : short (xs.length + ys.length) = true
      · rw [if_pos c] at wq
        obtain ⟨a, rfl, ha⟩ := ra.loc
        obtain ⟨b, rfl, hb⟩ := rb.loc
        obtain ⟨vs, k1, r1⟩ := S.lst ha h1
        obtain ⟨ws, k2, r2⟩ := S.lst hb h2
        exact .inr (.inr ⟨a, b, vs, ws, rfl, rfl, k1, k2, by rw [r1.length, r2.length]; exact short_le c, fun p hp => wq (ρ ++ [p]) _ (Ext.lay hp) (S.lay hp (c := .lst (xs ++ ys)) ⟨_, rfl, r1.append r2⟩) _ (loc_at S)⟩)
      · rw [if_neg c] at wq; exact False.elim wq
    · exact False.elim wq
  · exact False.elim wq
end

/-! ### equality -/
mutual
def IV.pure : IV → Bool
  | .loc _ => false
  | .ro _ => false
  | .tup xs => IV.pures xs
  | .non => true
  | .bl _ => true
  | .int _ => true
  | .str _ => true
def IV.pures : List IV → Bool
  | [] => true
  | x :: xs => x.pure && IV.pures xs
end
mutual
def dOf : IV → PyData
  | .non => .none
  | .bl b => .bool b
  | .int i => .int i
  | .str s => .str ⟨s.toArray⟩
  | .tup xs => .tuple (dOfs xs)
  | .loc _ => .none
  | .ro _ => .none
def dOfs : List IV → List PyData
  | [] => []
  | x :: xs => dOf x :: dOfs xs
end
mutual
/-- == of plain data -/
def eqI : IV → IV → Bool
  | .non, .non => true
  | .bl a, .bl b => a == b
  | .bl a, .int j => (if a then 1 else 0) == j
  | .int i, .bl b => i == (if b then 1 else 0)
  | .int i, .int j => i == j
  | .str s, .str t => decide (s = t)
  | .tup xs, .tup ys => eqIs xs ys
  | _, _ => false
def eqIs : List IV → List IV → Bool
  | [], [] => true
  | x :: xs, y :: ys => eqI x y && eqIs xs ys
  | [], _ :: _ => false
  | _ :: _, [] => false
end
theorem str_beq (s t : List Nat) : ((⟨s.toArray⟩ : Str) == ⟨t.toArray⟩) = decide (s = t) := by
  by_cases h : s = t
  · subst h
    rw [beq_self_eq_true, decide_eq_true rfl]
  · rw [decide_eq_false h]
    refine beq_eq_false_iff_ne.mpr fun z => h ?_
    have := congrArg (fun x : Str => x.cps.toList) z
    simpa using this
mutual
theorem eqv_dOf : ∀ {a b : IV}, a.pure = true → b.pure = true → PyData.eqv (dOf a) (dOf b) = eqI a b
  | .non, b, _, hb => by cases b <;> first | rfl | simp [IV.pure] at hb
  | .bl x, b, _, hb => by cases b <;> first | rfl | simp [IV.pure] at hb
  | .int x, b, _, hb => by cases b <;> first | rfl | simp [IV.pure] at hb
  | .str x, b, _, hb => by
    cases b with
    | str y => show ((⟨x.toArray⟩ : Str) == ⟨y.toArray⟩) = _; rw [str_beq]; rfl
    | _ => first | rfl | simp [IV.pure] at hb
  | .tup xs, b, ha, hb => by
    cases b with
    | tup ys => exact eqv_dOfs (by simpa [IV.pure] using ha) (by simpa [IV.pure] using hb)
    | _ => first | rfl | simp [IV.pure] at hb
  | .loc _, b, ha, _ => by simp [IV.pure] at ha
  | .ro _, b, ha, _ => by simp [IV.pure] at ha
theorem eqv_dOfs : ∀ {a b : List IV}, IV.pures a = true → IV.pures b = true → PyData.eqvAll (dOfs a) (dOfs b) = eqIs a b
  | [], [], _, _ => rfl
  | [], _ :: _, _, _ => rfl
  | _ :: _, [], _, _ => rfl
  | x :: xs, y :: ys, ha, hb => by
    simp only [IV.pures, Bool.and_eq_true] at ha hb
    show (PyData.eqv (dOf x) (dOf y) && PyData.eqvAll (dOfs xs) (dOfs ys)) = (eqI x y && eqIs xs ys)
    rw [eqv_dOf ha.1 hb.1, eqv_dOfs ha.2 hb.2]
end
section
variable {g : G} {ρ : List Addr} {H : Hp}
mutual
theorem dp_of : ∀ {a : IV} {v : V}, a.pure = true → RepV g ρ H a v → Dp g.K H v (dOf a)
  | .non, _, _, r => by rw [r.non]; exact .non
  | .bl b, _, _, r => by rw [r.bl]; exact .bl b
  | .int i, _, _, r => by rw [r.int]; exact .int i
  | .str s, _, _, r => by rw [r.str]; exact .str _
  | .tup xs, v, h, r => by
    obtain ⟨a, vs, rfl, h1, h2⟩ := r.tup
    exact .tup h1.sq (dps_of (by simpa [IV.pure] using h) h2)
  | .loc _, _, h, _ => by simp [IV.pure] at h
  | .ro _, _, h, _ => by simp [IV.pure] at h
theorem dps_of : ∀ {a : List IV} {v : List V}, IV.pures a = true → RepVs g ρ H a v → DpAll g.K H v (dOfs a)
  | [], _, _, r => by rw [r.nil]; exact .nil
  | x :: xs, _, h, r => by
    simp only [IV.pures, Bool.and_eq_true] at h
    obtain ⟨v, r', rfl, h1, h2⟩ := r.cons
    exact .cons (dp_of h.1 h1) (dps_of h.2 h2)
end
end
/-- scalars -/
def eqS : IV → IV → Option Bool
  | .int i, .int j => some (decide (i = j))
  | .str s, .str t => some (decide (s = t))
  | .bl a, .bl b => some (decide (a = b))
  | .non, .non => some true
  | .non, .int _ => some false
  | .non, .bl _ => some false
  | .non, .str _ => some false
  | .int _, .non => some false
  | .bl _, .non => some false
  | .str _, .non => some false
  | .int _, .str _ => some false
  | .str _, .int _ => some false
  | .bl _, .str _ => some false
  | .str _, .bl _ => some false
  | _, _ => none
/-- a value as data: a list of the store by its items -/
def view (st : Store) : IV → Option (Bool × IV)
  | .loc n => match st[n]? with
    | some (.lst xs) => if IV.pures xs = true then some (true, .tup xs) else none
    | _ => none
  | .ro xs => if IV.pures xs = true then some (true, .tup xs) else none
  | .non => some (false, .non)
  | .bl b => some (false, .bl b)
  | .int i => some (false, .int i)
  | .str s => some (false, .str s)
  | .tup xs => if IV.pures xs = true then some (false, .tup xs) else none
def dView : Bool × IV → PyData
  | (true, .tup xs) => .list (dOfs xs)
  | (_, v) => dOf v
def okD (p : Bool × IV) : Bool := SeqAt.shaped (dView p)
def eqQ (st : Store) (a b : IV) : Option Bool := match eqS a b with
  | some k => some k
  | none => match view st a, view st b with
    | some p, some q => if okD p = true ∧ okD q = true then some (if p.1 = q.1 then eqI p.2 q.2 else false) else none
    | _, _ => none
def oEq : O2 := fun a b st => match eqQ st a b with
  | some k => .ok (.bl k) st
  | none => .bad
def oNe : O2 := fun a b st => match eqQ st a b with
  | some k => .ok (.bl (!k)) st
  | none => .bad
section
variable {X : Cx} {g : G} {ρ : List Addr} {H : Hp} {st : Store}
theorem view_dp (S : StR g ρ st H) {a : IV} {v : V} {p : Bool × IV} (r : RepV g ρ H a v) (h : view st a = some p) : Dp g.K H v (dView p) ∧ p.2.pure = true ∧ (p.1 = true → ∃ xs, p.2 = .tup xs) := by
  cases a with
  | non => simp only [view, Option.some.injEq] at h; subst h; exact ⟨dp_of rfl r, rfl, fun z => nomatch z⟩
  | bl b => simp only [view, Option.some.injEq] at h; subst h; exact ⟨dp_of rfl r, rfl, fun z => nomatch z⟩
  | int i => simp only [view, Option.some.injEq] at h; subst h; exact ⟨dp_of rfl r, rfl, fun z => nomatch z⟩
  | str s => simp only [view, Option.some.injEq] at h; subst h; exact ⟨dp_of rfl r, rfl, fun z => nomatch z⟩
  | tup xs =>
    simp only [view] at h
    by_cases c : IV.pures xs = true
    · rw [if_pos c] at h
      cases h
      exact ⟨dp_of (by simpa [IV.pure] using c) r, by simpa [IV.pure] using c, fun z => nomatch z⟩
    · rw [if_neg c] at h; cases h
  | ro xs =>
    simp only [view] at h
    by_cases c : IV.pures xs = true
    · rw [if_pos c] at h
      cases h
      obtain ⟨a, vs, rfl, h1, h2⟩ := r.ro
      exact ⟨.lst h1.sq (dps_of c h2), by simpa [IV.pure] using c, fun _ => ⟨xs, rfl⟩⟩
    · rw [if_neg c] at h; cases h
  | loc n =>
    simp only [view] at h
    split at h
    · rename_i xs hn
      by_cases c : IV.pures xs = true
      · rw [if_pos c] at h
        cases h
        obtain ⟨a, rfl, ha⟩ := r.loc
        obtain ⟨vs, h1, h2⟩ := S.lst ha hn
        exact ⟨.lst (SqL.of h1) (dps_of c h2), by simpa [IV.pure] using c, fun _ => ⟨xs, rfl⟩⟩
      · rw [if_neg c] at h; cases h
    · cases h
theorem dView_eqv {p q : Bool × IV} (hp : p.2.pure = true) (hq : q.2.pure = true) (lp : p.1 = true → ∃ xs, p.2 = .tup xs) (lq : q.1 = true → ∃ xs, q.2 = .tup xs) :
    PyData.eqv (dView p) (dView q) = if p.1 = q.1 then eqI p.2 q.2 else false := by
  obtain ⟨b, v⟩ := p
  obtain ⟨c, w⟩ := q
  cases b with
  | true =>
    obtain ⟨xs, rfl⟩ := lp rfl
    cases c with
    | true =>
      obtain ⟨ys, rfl⟩ := lq rfl
      rw [if_pos rfl]
      exact eqv_dOfs (by simpa [IV.pure] using hp) (by simpa [IV.pure] using hq)
    | false =>
      rw [if_neg (by intro z; cases z)]
      cases w <;> first | rfl | simp [IV.pure] at hq
  | false =>
    cases c with
    | true =>
      obtain ⟨ys, rfl⟩ := lq rfl
      rw [if_neg (by intro z; cases z)]
      cases v <;> first | rfl | simp [IV.pure] at hp
    | false =>
      rw [if_pos rfl]
      have h1 : dView (false, v) = dOf v := by cases v <;> rfl
      have h2 : dView (false, w) = dOf w := by cases w <;> rfl
      rw [h1, h2]
      exact eqv_dOf hp hq
theorem eqS_scal {a b : IV} {x y : V} {k : Bool} (ra : RepV g ρ H a x) (rb : RepV g ρ H b y) (h : eqS a b = some k) : scal x y = true ∧ decide (x = y) = k := by
  cases a <;> cases b <;> simp only [eqS, Option.some.injEq] at h <;> try (cases h; done)
  case non.non => rw [ra.non, rb.non]; subst h; exact ⟨rfl, rfl⟩
  case non.bl => rw [ra.non, rb.bl]; subst h; exact ⟨rfl, rfl⟩
  case non.int => rw [ra.non, rb.int]; subst h; exact ⟨rfl, rfl⟩
  case non.str => rw [ra.non, rb.str]; subst h; exact ⟨rfl, rfl⟩
  case bl.non => rw [ra.bl, rb.non]; subst h; exact ⟨rfl, rfl⟩
  case bl.bl => rw [ra.bl, rb.bl]; subst h; exact ⟨rfl, by simp⟩
  case bl.str => rw [ra.bl, rb.str]; subst h; exact ⟨rfl, rfl⟩
  case int.non => rw [ra.int, rb.non]; subst h; exact ⟨rfl, rfl⟩
  case int.int => rw [ra.int, rb.int]; subst h; exact ⟨rfl, by simp⟩
  case int.str => rw [ra.int, rb.str]; subst h; exact ⟨rfl, rfl⟩
  case str.non => rw [ra.str, rb.non]; subst h; exact ⟨rfl, rfl⟩
  case str.bl => rw [ra.str, rb.bl]; subst h; exact ⟨rfl, rfl⟩
  case str.int => rw [ra.str, rb.int]; subst h; exact ⟨rfl, rfl⟩
  case str.str s t =>
    rw [ra.str, rb.str]
    subst h
    refine ⟨rfl, ?_⟩
    rw [dec_str, str_beq]
theorem p_eq (hK : X.K = g.K) (hu : X.A.units + 64 < cLine) : OpR X (compareOp .Eq) (rd2 g oEq) := OpR.imp (op_eq.or (op_eqD hu)) fun x y H Q ⟨ρ, st, a, b, S, ra, rb, wq⟩ => by
  unfold oEq at wq
  cases e : eqQ st a b with
  | none => rw [e] at wq; exact False.elim wq
  | some k =>
    rw [e] at wq
    unfold eqQ at e
    cases es : eqS a b with
    | some k' =>
      rw [es] at e
      cases e
      obtain ⟨h1, h2⟩ := eqS_scal ra rb es
      exact .inl ⟨h1, by rw [h2]; exact want_val wq S rep_bl⟩
    | none =>
      rw [es] at e
      simp only at e
      cases hp : view st a with
      | none => rw [hp] at e; cases e
      | some p =>
        cases hq : view st b with
        | none => rw [hp, hq] at e; cases e
        | some q =>
          rw [hp, hq] at e
          simp only at e
          by_cases c : okD p = true ∧ okD q = true
          · rw [if_pos c] at e
            cases e
            obtain ⟨d1, p1, l1⟩ := view_dp S ra hp
            obtain ⟨d2, p2, l2⟩ := view_dp S rb hq
            refine .inr ⟨_, _, by rw [hK]; exact d1, by rw [hK]; exact d2, c.1, c.2, ?_⟩
            rw [dView_eqv p1 p2 l1 l2]
            exact want_val wq S rep_bl
          · rw [if_neg c] at e; cases e
theorem p_ne (hK : X.K = g.K) (hu : X.A.units + 64 < cLine) : OpR X (compareOp .NotEq) (rd2 g oNe) := OpR.imp (op_ne.or (op_neD hu)) fun x y H Q ⟨ρ, st, a, b, S, ra, rb, wq⟩ => by
  unfold oNe at wq
  cases e : eqQ st a b with
  | none => rw [e] at wq; exact False.elim wq
  | some k =>
    rw [e] at wq
    unfold eqQ at e
    cases es : eqS a b with
    | some k' =>
      rw [es] at e
      cases e
      obtain ⟨h1, h2⟩ := eqS_scal ra rb es
      exact .inl ⟨h1, by rw [h2]; exact want_val wq S rep_bl⟩
    | none =>
      rw [es] at e
      simp only at e
      cases hp : view st a with
      | none => rw [hp] at e; cases e
      | some p =>
        cases hq : view st b with
        | none => rw [hp, hq] at e; cases e
        | some q =>
          rw [hp, hq] at e
          simp only at e
          by_cases c : okD p = true ∧ okD q = true
          · rw [if_pos c] at e
            cases e
            obtain ⟨d1, p1, l1⟩ := view_dp S ra hp
            obtain ⟨d2, p2, l2⟩ := view_dp S rb hq
            refine .inr ⟨_, _, by rw [hK]; exact d1, by rw [hK]; exact d2, c.1, c.2, ?_⟩
            rw [dView_eqv p1 p2 l1 l2]
            exact want_val wq S rep_bl
          · rw [if_neg c] at e; cases e
/-- is None -/
def oIs : O2 := fun a b st => match b with
  | .non => .ok (.bl (decide (a = .non))) st
  | _ => .bad
def oIsNot : O2 := fun a b st => match b with
  | .non => .ok (.bl (!decide (a = .non))) st
  | _ => .bad
theorem is_non {a : IV} {x : V} (r : RepV g ρ H a x) : decide (x = V.non) = decide (a = .non) := by
  cases a with
  | non => rw [r.non]; rfl
  | bl _ => rw [r.bl]; rfl
  | int _ => rw [r.int]; rfl
  | str _ => rw [r.str]; rfl
  | tup _ => obtain ⟨a, vs, rfl, _⟩ := r.tup; rfl
  | loc _ => obtain ⟨a, rfl, _⟩ := r.loc; rfl
  | ro _ => obtain ⟨a, vs, rfl, _⟩ := r.ro; rfl
theorem p_is : OpR X (compareOp .Is) (rd2 g oIs) := OpR.imp op_isN fun x y H Q ⟨ρ, st, a, b, S, ra, rb, wq⟩ => by
  unfold oIs at wq
  split at wq
  · exact ⟨rb.non, by rw [is_non ra]; exact want_val wq S rep_bl⟩
  · exact False.elim wq
theorem p_isnot : OpR X (compareOp .IsNot) (rd2 g oIsNot) := OpR.imp op_notN fun x y H Q ⟨ρ, st, a, b, S, ra, rb, wq⟩ => by
  unfold oIsNot at wq
  split at wq
  · exact ⟨rb.non, by rw [is_non ra]; exact want_val wq S rep_bl⟩
  · exact False.elim wq

/-! ### subscripts -/
/-- a sequence's items -/
def seqOf (st : Store) : IV → Option (List IV)
  | .tup xs => some xs
  | .ro xs => some xs
  | .loc n => match st[n]? with
    | some (.lst xs) => some xs
    | _ => none
  | _ => none
theorem seqOf_rep (S : StR g ρ st H) {a : IV} {v : V} {xs : List IV} (r : RepV g ρ H a v) (h : seqOf st a = some xs) : ∃ p vs, v = .ref p ∧ (SqL g.K H p vs ∨ SqT g.K H p vs) ∧ RepVs g ρ H xs vs := by
  cases a with
  | tup ys =>
    simp only [seqOf, Option.some.injEq] at h
    subst h
    obtain ⟨a, vs, rfl, h1, h2⟩ := r.tup
    exact ⟨a, vs, rfl, .inr h1.sq, h2⟩
  | ro ys =>
    simp only [seqOf, Option.some.injEq] at h
    subst h
    obtain ⟨a, vs, rfl, h1, h2⟩ := r.ro
    exact ⟨a, vs, rfl, .inl h1.sq, h2⟩
  | loc n =>
    simp only [seqOf] at h
    split at h
    · rename_i hn
      cases h
      obtain ⟨a, rfl, ha⟩ := r.loc
      obtain ⟨vs, h1, h2⟩ := S.lst ha hn
      exact ⟨a, vs, rfl, .inl (SqL.of h1), h2⟩
    · cases h
  | _ => simp [seqOf] at h
def oIx : O2 := fun a b st => match b with
  | .int i => match a with
    | .str s => if short s.length = true then match atI s i with
        | some c => .ok (.str [c]) st
        | none => .bad
      else .bad
    | a => match seqOf st a with
      | some xs => match atI xs i with
        | some v => .ok v st
        | none => .bad
      | none => .bad
  | _ => .bad
theorem RepVs.atI {xs : List IV} {vs : List V} {i : Int} {x : IV} (r : RepVs g ρ H xs vs) (h : L2.atI xs i = some x) : ∃ v, L2.atI vs i = some v ∧ RepV g ρ H x v := by
  unfold L2.atI at h ⊢
  rw [r.length]
  cases e : ixN xs.length i with
  | none => rw [e] at h; cases h
  | some j =>
    rw [e] at h
    exact r.get h
theorem p_ix (hK : X.K = g.K) : IxR X (rd2 g oIx) := IxR.imp ix_seq fun x y H Q ⟨ρ, st, a, b, S, ra, rb, wq⟩ => by
  unfold oIx at wq
  split at wq
  · rename_i i
    split at wq
    · rename_i s
      by_cases c : short s.length = true
      · rw [if_pos c] at wq
        cases e : L2.atI s i with
        | none => rw [e] at wq; exact False.elim wq
        | some d =>
          rw [e] at wq
          exact .inr (.inr ⟨_, i, d, ra.str, rb.int, by rw [str_len]; exact short_le c, by simpa using e, want_val wq S rep_str⟩)
      · rw [if_neg c] at wq; exact False.elim wq
    · cases es : seqOf st a with
      | none => rw [es] at wq; exact False.elim wq
      | some xs =>
        rw [es] at wq
        simp only at wq
        cases e : L2.atI xs i with
        | none => rw [e] at wq; exact False.elim wq
        | some d =>
          rw [e] at wq
          obtain ⟨p, vs, rfl, h1, h2⟩ := seqOf_rep S ra es
          obtain ⟨v, h3, h4⟩ := h2.atI e
          rcases h1 with h1 | h1
          · exact .inl ⟨p, vs, i, v, rfl, rb.int, by rw [hK]; exact h1, h3, want_val wq S h4⟩
          · exact .inr (.inl ⟨p, vs, i, v, rfl, rb.int, by rw [hK]; exact h1, h3, want_val wq S h4⟩)
  · exact False.elim wq
end

/-! ### slices -/
def cutI {α : Type} (xs : List α) (lo hi : Option Int) : List α := (xs.drop (HT.sIx xs.length 0 lo)).take (HT.sIx xs.length xs.length hi - HT.sIx xs.length 0 lo)
abbrev MO := MM (Option Int)
def mNoPart : MO := fun _ st => .ok none st
def mPart (m : ME) : MO := fun sl st => (m sl st).andThen fun v st1 => match v with
  | .int i => .ok (some i) st1
  | _ => .bad
def oSl (a : IV) (lo hi : Option Int) (st : Store) : Res IV := match a with
  | .str s => if short s.length = true then .ok (.str (cutI s lo hi)) st else .bad
  | .tup xs => .ok (.tup (cutI xs lo hi)) st
  | .loc n => match st[n]? with
    | some (.lst xs) => .ok (.loc st.length) (st ++ [.lst (cutI xs lo hi)])
    | _ => .bad
  | _ => .bad
def mSl (m : ME) (l u : MO) : ME := fun sl st => gcV st ((m sl st).andThen fun a st1 => (l sl st1).andThen fun lo st2 => (u sl st2).andThen fun hi st3 => oSl a lo hi st3)
def rdO (g : G) (W : WX) (m : MO) : TO := fun σ H Q => ∃ ρ sl st, StR g ρ st H ∧ Mi.SlR g ρ H sl σ ∧ want g W σ ρ H (fun o _ _ H' => Q o H') (m sl st)
abbrev SO (X : Cx) (g : G) (W : WX) (e : Option Expr) (m : MO) : Prop := PO X e (rdO g W m)
theorem PO.imp {X : Cx} {e : Option Expr} {t t' : TO} (h : PO X e t) (i : ∀ σ H Q, t' σ H Q → t σ H Q) : PO X e t' := ⟨fun pins s σ H Q I q => h.run pins s σ H Q I (i σ H Q q)⟩
section
variable {X : Cx} {g : G} {W : WX} {e : Expr} {m : ME} {lo hi : Option Expr} {ml mh : MO} {pos p2 : Pos}
theorem o_none : SO X g W none mNoPart := PO.imp po_none fun σ H Q ⟨ρ, sl, st, S, L, w⟩ => w ρ H (Ext.refl _ _) S
theorem o_some (h : SE X g W e m) : SO X g W (some e) (mPart m) := PO.imp (po_some h) fun σ H Q ⟨ρ, sl, st, S, L, w⟩ => runE S L w fun v st1 ρ1 H1 x e1 S1 L1 r1 w1 => by
  cases v with
  | int i => exact ⟨i, r1.int, w1 ρ1 H1 (Ext.refl _ _) S1⟩
  | _ => exact False.elim w1
theorem runO {β : Type} {g : G} {W : WX} {ρ : List Addr} {H : Hp} {sl : Slots} {st : Store} {σ : L2.St} {m : MO} {f : Option Int → Store → Res β} {Q : Option Int → Hp → Prop} {P : β → Store → List Addr → Hp → Prop} (S : StR g ρ st H) (L : Mi.SlR g ρ H sl σ) (h : want g W σ ρ H P ((m sl st).andThen f))
    (hk : ∀ v st1 ρ1 H1, Ext ρ H ρ1 H1 → StR g ρ1 st1 H1 → Mi.SlR g ρ1 H1 sl σ → want g W σ ρ1 H1 P (f v st1) → Q v H1) : rdO g W m σ H Q :=
  ⟨ρ, sl, st, S, L, want.step h fun v st1 ρ1 H1 e S1 w => hk v st1 ρ1 H1 e S1 (L.ext e) w⟩
theorem cutV_rep {g : G} {ρ : List Addr} {H : Hp} {xs : List IV} {vs : List V} (r : RepVs g ρ H xs vs) (lo hi : Option Int) : RepVs g ρ H (cutI xs lo hi) (cutV vs lo hi) := by
  unfold cutI cutV
  rw [r.length]
  exact (r.drop _).take _
theorem cut_whole {α : Type} {xs : List α} {lo hi : Option Int} (h : HT.sIx xs.length 0 lo = 0 ∧ HT.sIx xs.length xs.length hi = xs.length) : cutI xs lo hi = xs := by
  unfold cutI
  rw [h.1, h.2]
  simp
theorem s_slice (hK : X.K = g.K) (he : SE X g W e m) (hl : SO X g W lo ml) (hh : SO X g W hi mh) : SE X g W (.Subscript e (.Slice lo hi none p2) pos) (mSl m ml mh) :=
  PE.imp (pe_slice (sl_str.or (sl_tupA.or sl_list)) he hl hh) fun σ H Q ⟨ρ, sl, st, S, L, w⟩ => runE S L (want.gcE S w) fun a st1 ρ1 H1 x e1 S1 L1 r1 w1 =>
    runO S1 L1 w1 fun lo st2 ρ2 H2 e2 S2 L2' w2 => runO S2 L2' w2 fun hi st3 ρ3 H3 e3 S3 L3 w3 => by
      have r3 := (r1.ext e2).ext e3
      cases a with
      | str s =>
        simp only [oSl] at w3
        by_cases c : short s.length = true
        · rw [if_pos c] at w3
          refine .inl ⟨_, r3.str, by rw [str_len]; exact short_le c, ?_⟩
          have : cutS ⟨s.toArray⟩ lo hi = ⟨(cutI s lo hi).toArray⟩ := by
            unfold cutS cutI
            rw [str_len]
          rw [this]
          exact w3 ρ3 H3 (Ext.refl _ _) S3 _ rep_str
        · rw [if_neg c] at w3; exact False.elim w3
      | tup xs =>
        obtain ⟨a, vs, rfl, h1, h2⟩ := r3.tup
        refine .inr (.inl ⟨a, vs, rfl, by rw [hK]; exact h1.sq, fun hw => ?_, fun hw p hp => ?_⟩)
        · rw [h2.length] at hw
          have w3' : want g W σ ρ3 H3 (qE g Q) (.ok (.tup (cutI xs lo hi)) st3) := w3
          rw [cut_whole hw] at w3'
          exact w3' ρ3 H3 (Ext.refl _ _) S3 _ r3
        · exact w3 ρ3 _ (Ext.new hp) (S3.new hp) _ (tup_at hp S3 (cutV_rep h2 lo hi))
      | loc n =>
        simp only [oSl] at w3
        split at w3
        · rename_i xs hn
          obtain ⟨a, rfl, ha⟩ := r3.loc
          obtain ⟨vs, h1, h2⟩ := S3.lst ha hn
          exact .inr (.inr ⟨a, vs, rfl, SqL.of h1, fun p hp => w3 (ρ3 ++ [p]) _ (Ext.lay hp) (S3.lay hp (c := .lst (cutI xs lo hi)) ⟨_, rfl, cutV_rep h2 lo hi⟩) _ (loc_at S3)⟩)
        · exact False.elim w3
      | _ => exact False.elim w3
end
end Mi

set_option Elab.async false
set_option linter.all false
set_option maxRecDepth 100000
set_option maxHeartbeats 2000000
/-! Mi6: built-ins, methods of built-in types. -/
namespace Mi
open PySem PySem.Spec PyProof.Rows L2

section
variable {X : Cx} {g : G} {ρ : List Addr} {H : Hp} {st : Store}
/-- len -/
def oLen : OC := fun as st => match as with
  | [.str s] => if short s.length = true then .ok (.int s.length) st else .bad
  | [a] => match seqOf st a with
    | some xs => .ok (.int xs.length) st
    | none => .bad
  | _ => .bad
theorem RepVs.one {a : IV} {vs : List V} (r : RepVs g ρ H [a] vs) : ∃ v, vs = [v] ∧ RepV g ρ H a v := by
  obtain ⟨v, r', rfl, h1, h2⟩ := r.cons
  rw [h2.nil]
  exact ⟨v, rfl, h1⟩
theorem RepVs.two {a b : IV} {vs : List V} (r : RepVs g ρ H [a, b] vs) : ∃ v w, vs = [v, w] ∧ RepV g ρ H a v ∧ RepV g ρ H b w := by
  obtain ⟨v, r', rfl, h1, h2⟩ := r.cons
  obtain ⟨w, rfl, h3⟩ := h2.one
  exact ⟨v, w, rfl, h1, h3⟩
theorem c_len (hK : X.K = g.K) : CallR X (.builtin "len") (rdC g oLen) := CallR.imp (call_len_seq.or call_len_str) fun vs H Q ⟨ρ, st, as, S, r, wq⟩ => by
  unfold oLen at wq
  split at wq
  · rename_i s
    by_cases c : short s.length = true
    · rw [if_pos c] at wq
      obtain ⟨v, rfl, r1⟩ := r.one
      refine .inr ⟨_, by rw [r1.str], by rw [str_len]; exact short_le c, ?_⟩
      rw [str_len]
      exact want_val wq S rep_int
    · rw [if_neg c] at wq; exact False.elim wq
  · rename_i a _
    cases e : seqOf st a with
    | none => rw [e] at wq; exact False.elim wq
    | some xs =>
      rw [e] at wq
      obtain ⟨v, rfl, r1⟩ := r.one
      obtain ⟨p, vs, rfl, h1, h2⟩ := seqOf_rep S r1 e
      refine .inl ⟨p, vs, rfl, by rw [hK]; exact h1, ?_⟩
      rw [h2.length]
      exact want_val wq S rep_int
  · exact False.elim wq
/-- ints of a list -/
def intsOf : List IV → Option (List Int)
  | [] => some []
  | .int i :: xs => match intsOf xs with
    | some is => some (i :: is)
    | none => none
  | _ => none
theorem intsOf_eq : ∀ {xs : List IV} {is : List Int}, intsOf xs = some is → xs = is.map IV.int
  | [], is, h => by simp only [intsOf, Option.some.injEq] at h; subst h; rfl
  | x :: xs, is, h => by
    cases x with
    | int i =>
      simp only [intsOf] at h
      cases e : intsOf xs with
      | none => rw [e] at h; cases h
      | some js =>
        rw [e] at h
        simp only [Option.some.injEq] at h
        subst h
        rw [intsOf_eq e]
        rfl
    | _ => simp [intsOf] at h
@[simp] theorem intsOf_map (is : List Int) : intsOf (is.map IV.int) = some is := by
  induction is with
  | nil => rfl
  | cons i is ih => show (match intsOf (is.map IV.int) with | some is => some (i :: is) | none => none) = _; rw [ih]
theorem RepVs.ints : ∀ {is : List Int} {vs : List V}, RepVs g ρ H (is.map IV.int) vs → vs = is.map V.int
  | [], _, r => r.nil
  | i :: is, vs, r => by
    obtain ⟨v, r', rfl, h1, h2⟩ := r.cons
    rw [h1.int, RepVs.ints h2]
    rfl
/-- a list (not a tuple) of the store, or one that is only read -/
def lstOf (st : Store) : IV → Option (List IV)
  | .ro xs => some xs
  | .loc n => match st[n]? with
    | some (.lst xs) => some xs
    | _ => none
  | _ => none
theorem lstOf_rep (S : StR g ρ st H) {a : IV} {v : V} {xs : List IV} (r : RepV g ρ H a v) (h : lstOf st a = some xs) : ∃ p vs, v = .ref p ∧ SqL g.K H p vs ∧ RepVs g ρ H xs vs := by
  cases a with
  | ro ys =>
    simp only [lstOf, Option.some.injEq] at h
    subst h
    obtain ⟨a, vs, rfl, h1, h2⟩ := r.ro
    exact ⟨a, vs, rfl, h1.sq, h2⟩
  | loc n =>
    simp only [lstOf] at h
    split at h
    · rename_i hn
      cases h
      obtain ⟨a, rfl, ha⟩ := r.loc
      obtain ⟨vs, h1, h2⟩ := S.lst ha hn
      exact ⟨a, vs, rfl, SqL.of h1, h2⟩
    · cases h
  | _ => simp [lstOf] at h
/-- sum of a tuple of ints -/
theorem sum_tupRaw {prog : Program} {w : World} {A : Around} {E : Value → Shared → Prop} {s : Shared} {l : Addr} {its : List Value} {ns : List Int} {Q : Value → Shared → Prop} (hh : A.handled = none) (hl : IsTup s.heap l its.toArray) (hi : IntsAre its ns)
    (h : ∀ h' tk t', (∀ b o, s.heap.get? b = some o → h'.get? b = some o) → Q (.int ns.sum t') { s with heap := h', toks := tk }) : wpAny (model prog w) A (PySem.call (.builtin "sum") [.ref l]) Q E s := by
  obtain ⟨xs, e⟩ := hi.allInts.items
  have hn : numsOf (intItems xs).toList = ns := by rw [← e]; exact hi.numsOf
  rw [nums_intItems] at hn
  rw [e] at hl
  have hT : s.heap.IsTuple l (intItems xs) := hl
  have hlt : l < s.heap.objs.size := hl.lt
  refine call_sum_walkG (wpAny_pyIter_tuple hT ?_)
  refine ⟨_, [_, l], [_], _, _, _, numAt xs, rfl, Walks.tuple (A := A.in1) hh _ l (Nat.ne_of_lt hlt) (intItems xs), ⟨⟨_, Heap.get?_push_size _ rfl, rfl, rfl⟩, hT.push _⟩, fun b hb => ?_, (fun _ _ => intItems_at), fun h' tk t' hk => ?_⟩
  · show b < (s.heap.push _).objs.size
    rw [Heap.size_push]
    rcases List.mem_cons.mp hb with rfl | hb
    · exact Nat.lt_succ_self _
    · rcases List.mem_cons.mp hb with rfl | hb
      · exact Nat.lt_succ_of_lt hlt
      · cases hb
  · have hold : ∀ b o, s.heap.get? b = some o → h'.get? b = some o := fun b o e => hk b o (fun hm => by
      have := Heap.lt_size e
      rw [List.mem_singleton.mp hm] at this
      exact Nat.lt_irrefl _ this) (Heap.get?_push_of_some _ e)
    have := h h' tk t' hold
    rw [← hn] at this
    have e2 : preSum (numAt xs) (intItems xs).size = ((xs.toList.map (·.1)).sum : Int) := by
      rw [preSum_eq, List.take_of_length_le (by simp [intItems])]
    rw [e2]
    exact this
theorem cr_sumT (hc : X.calm = true) : CallR X (.builtin "sum") (fun vs H Q => ∃ (a : Addr) (ns : List Int), vs = [V.ref a] ∧ SqT X.K H a (ns.map V.int) ∧ Q (.int ns.sum) H) := by
  intro pins s σ H xs us Q I r h
  obtain ⟨a, ns, rfl, ha, q⟩ := h
  obtain ⟨its, rv, p, hz⟩ := I.tuple ha
  rw [Vals.ref1 r]
  exact sum_tupRaw (I.ok.hd hc) p (Vals.ints rv) fun h' tk t' hk => ⟨.int ns.sum, H, I.kept hk, ⟨_, rfl⟩, q⟩
/-- sum of a list or tuple of ints -/
def oSum : OC := fun as st => match as with
  | [a] => match seqOf st a with
    | some xs => match intsOf xs with
      | some is => .ok (.int is.sum) st
      | none => .bad
    | none => .bad
  | _ => .bad
theorem c_sum (hK : X.K = g.K) (hc : X.calm = true) : CallR X (.builtin "sum") (rdC g oSum) := CallR.imp ((cr_sum hc).or (cr_sumT hc)) fun vs H Q ⟨ρ, st, as, S, r, wq⟩ => by
  unfold oSum at wq
  split at wq
  · rename_i a
    cases e : seqOf st a with
    | none => rw [e] at wq; exact False.elim wq
    | some xs =>
      rw [e] at wq
      simp only at wq
      cases ei : intsOf xs with
      | none => rw [ei] at wq; exact False.elim wq
      | some is =>
        rw [ei] at wq
        obtain ⟨v, rfl, r1⟩ := r.one
        obtain ⟨p, vs, rfl, h1, h2⟩ := seqOf_rep S r1 e
        rw [intsOf_eq ei] at h2
        rcases h1 with h1 | h1
        · exact .inl ⟨p, is, rfl, by rw [hK, ← h2.ints]; exact h1, want_val wq S rep_int⟩
        · exact .inr ⟨p, is, rfl, by rw [hK, ← h2.ints]; exact h1, want_val wq S rep_int⟩
  · exact False.elim wq
/-- int of an int, a bool -/
def oIntC : OC := fun as st => match as with
  | [.int i] => .ok (.int i) st
  | [.bl b] => .ok (.int (if b then 1 else 0)) st
  | _ => .bad
theorem c_int : CallR X (.type "int") (rdC g oIntC) := CallR.imp call_int1 fun vs H Q ⟨ρ, st, as, S, r, wq⟩ => by
  unfold oIntC at wq
  split at wq
  · obtain ⟨v, rfl, r1⟩ := r.one
    rw [r1.int]
    exact .inl ⟨_, rfl, want_val wq S rep_int⟩
  · obtain ⟨v, rfl, r1⟩ := r.one
    rw [r1.bl]
    exact .inr ⟨_, rfl, want_val wq S rep_int⟩
  · exact False.elim wq
def oAbs : OC := fun as st => match as with
  | [.int i] => .ok (.int (if i < 0 then -i else i)) st
  | _ => .bad
theorem c_abs : CallR X (.builtin "abs") (rdC g oAbs) := CallR.imp call_abs fun vs H Q ⟨ρ, st, as, S, r, wq⟩ => by
  unfold oAbs at wq
  split at wq
  · obtain ⟨v, rfl, r1⟩ := r.one
    rw [r1.int]
    exact ⟨_, rfl, want_val wq S rep_int⟩
  · exact False.elim wq
def oMin2 : OC := fun as st => match as with
  | [.int i, .int j] => .ok (.int (if j < i then j else i)) st
  | _ => .bad
def oMax2 : OC := fun as st => match as with
  | [.int i, .int j] => .ok (.int (if j > i then j else i)) st
  | _ => .bad
theorem c_min2 (hc : X.calm = true) : CallR X (.builtin "min") (rdC g oMin2) := CallR.imp (call_min2 hc) fun vs H Q ⟨ρ, st, as, S, r, wq⟩ => by
  unfold oMin2 at wq
  split at wq
  · obtain ⟨v, w, rfl, r1, r2⟩ := r.two
    rw [r1.int, r2.int]
    exact ⟨_, _, rfl, want_val wq S rep_int⟩
  · exact False.elim wq
theorem c_max2 (hc : X.calm = true) : CallR X (.builtin "max") (rdC g oMax2) := CallR.imp (call_max2 hc) fun vs H Q ⟨ρ, st, as, S, r, wq⟩ => by
  unfold oMax2 at wq
  split at wq
  · obtain ⟨v, w, rfl, r1, r2⟩ := r.two
    rw [r1.int, r2.int]
    exact ⟨_, _, rfl, want_val wq S rep_int⟩
  · exact False.elim wq
/-- list(x), tuple(x) of a list or tuple -/
def oList : OC := fun as st => match as with
  | [a] => match seqOf st a with
    | some xs => .ok (.loc st.length) (st ++ [.lst xs])
    | none => .bad
  | _ => .bad
theorem c_list (hK : X.K = g.K) : CallR X (.type "list") (rdC g oList) := CallR.imp call_list_of fun vs H Q ⟨ρ, st, as, S, r, wq⟩ => by
  unfold oList at wq
  split at wq
  · rename_i a
    cases e : seqOf st a with
    | none => rw [e] at wq; exact False.elim wq
    | some xs =>
      rw [e] at wq
      obtain ⟨v, rfl, r1⟩ := r.one
      obtain ⟨p, vs, rfl, h1, h2⟩ := seqOf_rep S r1 e
      exact ⟨p, vs, rfl, by rw [hK]; exact h1, fun l hl => wq (ρ ++ [l]) _ (Ext.lay hl) (S.lay hl (c := .lst xs) ⟨_, rfl, h2⟩) _ (loc_at S)⟩
  · exact False.elim wq
def oTuple : OC := fun as st => match as with
  | [a] => match seqOf st a with
    | some xs => .ok (.tup xs) st
    | none => .bad
  | _ => .bad
theorem c_tuple (hK : X.K = g.K) : CallR X (.type "tuple") (rdC g oTuple) := CallR.imp call_tuple_of fun vs H Q ⟨ρ, st, as, S, r, wq⟩ => by
  unfold oTuple at wq
  split at wq
  · rename_i a
    cases a with
    | tup xs =>
      obtain ⟨v, rfl, r1⟩ := r.one
      obtain ⟨p, vs, rfl, h1, h2⟩ := r1.tup
      exact ⟨p, vs, rfl, .inr ⟨by rw [hK]; exact h1.sq, want_val wq S r1⟩⟩
    | ro xs =>
      obtain ⟨v, rfl, r1⟩ := r.one
      obtain ⟨p, vs, rfl, h1, h2⟩ := r1.ro
      exact ⟨p, vs, rfl, .inl ⟨by rw [hK]; exact h1.sq, fun l hl => wq ρ _ (Ext.new hl) (S.new hl) _ (tup_at hl S h2)⟩⟩
    | loc n =>
      simp only [seqOf] at wq
      split at wq
      · rename_i xs hs
        split at hs
        · rename_i hn
          cases hs
          obtain ⟨v, rfl, r1⟩ := r.one
          obtain ⟨a, rfl, ha⟩ := r1.loc
          obtain ⟨vs, h1, h2⟩ := S.lst ha hn
          exact ⟨a, vs, rfl, .inl ⟨SqL.of h1, fun l hl => wq ρ _ (Ext.new hl) (S.new hl) _ (tup_at hl S h2)⟩⟩
        · cases hs
      · exact False.elim wq
    | _ => exact False.elim wq
  · exact False.elim wq
/-- any, all of a list of truth values -/
def blsOf : List IV → Option (List Bool)
  | [] => some []
  | .bl i :: xs => match blsOf xs with
    | some is => some (i :: is)
    | none => none
  | _ => none
theorem blsOf_eq : ∀ {xs : List IV} {is : List Bool}, blsOf xs = some is → xs = is.map IV.bl
  | [], is, h => by simp only [blsOf, Option.some.injEq] at h; subst h; rfl
  | x :: xs, is, h => by
    cases x with
    | bl i =>
      simp only [blsOf] at h
      cases e : blsOf xs with
      | none => rw [e] at h; cases h
      | some js =>
        rw [e] at h
        simp only [Option.some.injEq] at h
        subst h
        rw [blsOf_eq e]
        rfl
    | _ => simp [blsOf] at h
@[simp] theorem blsOf_map (is : List Bool) : blsOf (is.map IV.bl) = some is := by
  induction is with
  | nil => rfl
  | cons i is ih => show (match blsOf (is.map IV.bl) with | some is => some (i :: is) | none => none) = _; rw [ih]
theorem RepVs.bls : ∀ {is : List Bool} {vs : List V}, RepVs g ρ H (is.map IV.bl) vs → vs = is.map V.bl
  | [], _, r => r.nil
  | i :: is, vs, r => by
    obtain ⟨v, r', rfl, h1, h2⟩ := r.cons
    rw [h1.bl, RepVs.bls h2]
    rfl
def oAny : OC := fun as st => match as with
  | [a] => match lstOf st a with
    | some xs => match blsOf xs with
      | some is => .ok (.bl (is.any id)) st
      | none => .bad
    | none => .bad
  | _ => .bad
def oAll : OC := fun as st => match as with
  | [a] => match lstOf st a with
    | some xs => match blsOf xs with
      | some is => .ok (.bl (is.all id)) st
      | none => .bad
    | none => .bad
  | _ => .bad
theorem c_any (hK : X.K = g.K) (hc : X.calm = true) : CallR X (.builtin "any") (rdC g oAny) := CallR.imp (cr_any hc) fun vs H Q ⟨ρ, st, as, S, r, wq⟩ => by
  unfold oAny at wq
  split at wq
  · rename_i a
    cases e : lstOf st a with
    | none => rw [e] at wq; exact False.elim wq
    | some xs =>
      rw [e] at wq
      simp only at wq
      cases ei : blsOf xs with
      | none => rw [ei] at wq; exact False.elim wq
      | some is =>
        rw [ei] at wq
        obtain ⟨v, rfl, r1⟩ := r.one
        obtain ⟨p, vs, rfl, h1, h2⟩ := lstOf_rep S r1 e
        rw [blsOf_eq ei] at h2
        exact ⟨p, is, rfl, by rw [hK, ← h2.bls]; exact h1, want_val wq S rep_bl⟩
  · exact False.elim wq
theorem c_all (hK : X.K = g.K) (hc : X.calm = true) : CallR X (.builtin "all") (rdC g oAll) := CallR.imp (cr_all hc) fun vs H Q ⟨ρ, st, as, S, r, wq⟩ => by
  unfold oAll at wq
  split at wq
  · rename_i a
    cases e : lstOf st a with
    | none => rw [e] at wq; exact False.elim wq
    | some xs =>
      rw [e] at wq
      simp only at wq
      cases ei : blsOf xs with
      | none => rw [ei] at wq; exact False.elim wq
      | some is =>
        rw [ei] at wq
        obtain ⟨v, rfl, r1⟩ := r.one
        obtain ⟨p, vs, rfl, h1, h2⟩ := lstOf_rep S r1 e
        rw [blsOf_eq ei] at h2
        exact ⟨p, is, rfl, by rw [hK, ← h2.bls]; exact h1, want_val wq S rep_bl⟩
  · exact False.elim wq
end

/-! ### isinstance of a plain value and int, bool -/
def oIsi (T : String) : IV → Store → Res IV := fun a st => match a with
  | .int _ => .ok (.bl (T == "int")) st
  | .bl _ => .ok (.bl (T == "int" || T == "bool")) st
  | .str _ => .ok (.bl (T == "str")) st
  | .non => .ok (.bl false) st
  | _ => .bad
def isiT : List String := ["int", "bool", "str"]
section
variable {X : Cx} {g : G} {W : WX} {e : Expr} {m : ME} {x T : Str} {t : String} {p p2 pos : Pos}
theorem s_isi (hm : X.mg "isinstance" = none) (hmT : X.mg T = none) (ht : bootBuiltins T = some (.type t)) (hT : t ∈ isiT) (he : SE X g W e m) (hg : Gl X "isinstance" := by rfl) (hgT : Gl X T := by rfl) (hn : T ≠ "__name__" := by decide) (hdT : (T == ("__debug__" : Str)) = false := by decide)
    (hs : starEach [e, .Name T p2] X.env = (false, eval e X.env) :: starEach [.Name T p2] X.env := by rfl) (hpl : (backTo pos (starEach [.Name T p2] X.env)).any (·.1) = false := by rfl)
    (hs2 : starEach [.Name T p2] X.env = (false, eval (.Name T p2) X.env) :: starEach [] X.env := by rfl) :
    SE X g W (.Call (.Name "isinstance" p) [e, .Name T p2] [] pos) (mUn (oIsi t) m) :=
  PE.imp (pe_callB call_isi hg hm PyProof.Rows.boot_isinstance (pa_cons he (pa_cons (pe_bltn (v := .ty t) hgT hmT ht rfl hn hdT) pa_nil hs2) hs) (by decide) (by decide) hs hpl) fun σ H Q ⟨ρ, sl, st, S, L, w⟩ =>
    runE S L (want.gcE S w) fun v st1 ρ1 H1 x e1 S1 L1 r1 w1 => by
      have w2 := want.calm w1
      have k1 : ∀ b, PySem.W.kitOne X.K (.type "int") (.type t) = some b → b = (t == "int") := fun b h => by
        simp only [isiT, List.mem_cons, List.not_mem_nil, or_false] at hT
        rcases hT with rfl | rfl | rfl
        · have := (kit_ty (K := X.K) (a := "int") (b := "int") (r := true) (by decide +kernel)); rw [this] at h; cases h; rfl
        · have := (kit_ty (K := X.K) (a := "int") (b := "bool") (r := false) (by decide +kernel)); rw [this] at h; cases h; rfl
        · have := (kit_ty (K := X.K) (a := "int") (b := "str") (r := false) (by decide +kernel)); rw [this] at h; cases h; rfl
      simp only [isiT, List.mem_cons, List.not_mem_nil, or_false] at hT
      cases v with
      | int i =>
        rw [r1.int]
        refine ⟨_, _, _, _, (t == "int"), rfl, .ty t, .base (.int i), ?_, want_val w2 S1 rep_bl⟩
        rcases hT with rfl | rfl | rfl <;> exact kit_ty (by decide +kernel)
      | bl b =>
        rw [r1.bl]
        refine ⟨_, _, _, _, (t == "int" || t == "bool"), rfl, .ty t, .base (.bl b), ?_, want_val w2 S1 rep_bl⟩
        rcases hT with rfl | rfl | rfl <;> exact kit_ty (by decide +kernel)
      | str b =>
        rw [r1.str]
        refine ⟨_, _, _, _, (t == "str"), rfl, .ty t, .base (.str _), ?_, want_val w2 S1 rep_bl⟩
        rcases hT with rfl | rfl | rfl <;> exact kit_ty (by decide +kernel)
      | non =>
        rw [r1.non]
        refine ⟨_, _, _, _, false, rfl, .ty t, .base .non, ?_, want_val w2 S1 rep_bl⟩
        rcases hT with rfl | rfl | rfl <;> exact kit_ty (by decide +kernel)
      | _ => exact False.elim w2
end

/-! ### methods of built-in types -/
abbrev OM := IV → List IV → Store → Res IV
def rdM (g : G) (o : OM) : V → List V → Hp → VK → Prop := fun x xs H Q => ∃ ρ st a as, StR g ρ st H ∧ RepV g ρ H a x ∧ RepVs g ρ H as xs ∧ want g (fun _ _ _ _ => False) [] ρ H (qE g Q) (o a as st)
def isLst (v : IV) (st : Store) : Bool := match v with
  | .ro _ => true
  | .loc n => match st[n]? with
    | some (.lst _) => true
    | _ => false
  | _ => false
def isStr (v : IV) (_ : Store) : Bool := match v with
  | .str _ => true
  | _ => false
def mMt (ty : IV → Store → Bool) (o : OM) (mo : ME) (a : MA) : ME := fun sl st => gcV st ((mo sl st).andThen fun v st1 => if ty v st1 = true then (a sl st1).andThen fun xs st2 => calmR (o v xs st2) else .bad)
/-- the type of the receiver -/
structure TyOk (g : G) (T : String) (ty : IV → Store → Bool) : Prop where
  ok : ∀ ρ H st v x, StR g ρ st H → RepV g ρ H v x → ty v st = true → tyV g.K T x H
theorem ty_lst {g : G} : TyOk g "list" isLst := ⟨fun ρ H st v x S r h => by
  cases v with
  | ro xs => obtain ⟨a, vs, rfl, h1, h2⟩ := r.ro; exact .inl ⟨rfl, vs, h1.sq⟩
  | loc n =>
    simp only [isLst] at h
    split at h
    · rename_i hn
      obtain ⟨a, rfl, ha⟩ := r.loc
      obtain ⟨vs, h1, h2⟩ := S.lst ha hn
      exact .inl ⟨rfl, vs, SqL.of h1⟩
    · cases h
  | _ => simp [isLst] at h⟩
theorem ty_str {g : G} : TyOk g "str" isStr := ⟨fun ρ H st v x S r h => by
  cases v with
  | str s => rw [r.str]; exact rfl
  | _ => simp [isStr] at h⟩
section
variable {X : Cx} {g : G} {W : WX} {o e : Expr} {es : List Expr} {mo : ME} {a : MA} {op : OM} {name : Str} {apos cpos : Pos} {T id : String} {ty : IV → Store → Bool}
theorem s_mt (hK : X.K = g.K) (t : TyOk g T ty) (pa : PlainAttrs T) (slot : Slot T name id) (hty : typeOf (.builtin id) = pure (.type "method_descriptor")) (hm : MtR X id (rdM g op)) (ho : SE X g W o mo) (ha : SA X g W (e :: es) a)
    (hbase : attributeBase o name X.env (eval o X.env) = eval o X.env := by rfl)
    (hfew : ((backTo cpos (starEach (e :: es) X.env)).all (fun x => !x.1) && (backToKw cpos (keywordEach [] X.env)).all (fun x => x.1.isSome)
      && decide ((e :: es).length + ([] : List Keyword).length + (if ([] : List Keyword).isEmpty then 0 else 1) < 30)) = true := by rfl)
    (hline : (apos.endLine == cpos.line) = true := by rfl) (hs : starEach (e :: es) X.env = (false, eval e X.env) :: starEach es X.env := by rfl) (hplain : (backTo cpos (starEach es X.env)).any (·.1) = false := by rfl) :
    SE X g W (.Call (.Attribute o name apos) (e :: es) [] cpos) (mMt ty op mo a) :=
  PE.imp (pe_bm pa slot hty hm ho ha hbase hfew hline hs hplain) fun σ H Q ⟨ρ, sl, st, S, L, w⟩ => runE S L (want.gcE S w) fun v st1 ρ1 H1 x e1 S1 L1 r1 w1 => by
    by_cases c : ty v st1 = true
    · rw [if_pos c] at w1
      exact ⟨by rw [hK]; exact t.ok ρ1 H1 st1 v x S1 r1 c, runA S1 L1 w1 fun vs st2 ρ2 H2 xs e2 S2 L2' r2 w2 => ⟨ρ2, st2, v, vs, S2, r1.ext e2, r2, want.calm w2⟩⟩
    · rw [if_neg c] at w1; exact False.elim w1
theorem s_mt0 (hK : X.K = g.K) (t : TyOk g T ty) (pa : PlainAttrs T) (slot : Slot T name id) (hty : typeOf (.builtin id) = pure (.type "method_descriptor")) (hm : MtR X id (rdM g op)) (ho : SE X g W o mo)
    (hbase : attributeBase o name X.env (eval o X.env) = eval o X.env := by rfl) (hline : (apos.endLine == cpos.line) = true := by rfl) :
    SE X g W (.Call (.Attribute o name apos) [] [] cpos) (mMt ty op mo aNil) :=
  PE.imp (pe_bm0 pa slot hty hm ho hbase hline) fun σ H Q ⟨ρ, sl, st, S, L, w⟩ => runE S L (want.gcE S w) fun v st1 ρ1 H1 x e1 S1 L1 r1 w1 => by
    by_cases c : ty v st1 = true
    · rw [if_pos c] at w1
      exact ⟨by rw [hK]; exact t.ok ρ1 H1 st1 v x S1 r1 c, ρ1, st1, v, [], S1, r1, RepVs.nil_mk, want.calm w1⟩
    · rw [if_neg c] at w1; exact False.elim w1
/-- xs.append(y) -/
def oAppend : OM := fun v as st => match v, as with
  | .loc n, [y] => match st[n]? with
    | some (.lst xs) => if xs.length < 16777216 then .ok .non (st.set n (.lst (xs ++ [y]))) else .bad
    | _ => .bad
  | _, _ => .bad
theorem t_append : MtR X "list.append" (rdM g oAppend) := MtR.imp mt_append fun x vs H Q ⟨ρ, st, a, as, S, ra, rs, wq⟩ => by
  unfold oAppend at wq
  split at wq
  · rename_i n y
    split at wq
    · rename_i xs hn
      by_cases c : xs.length < 16777216
      · rw [if_pos c] at wq
        obtain ⟨p, rfl, hp⟩ := ra.loc
        obtain ⟨v, rfl, r1⟩ := rs.one
        obtain ⟨ws, h1, h2⟩ := S.lst hp hn
        have hm : p ∈ ρ := List.mem_of_getElem? hp
        exact ⟨p, ws, v, rfl, rfl, h1, by rw [h2.length, sizeLine_eq]; exact c, wq ρ _ (Ext.put hm) (S.put hp (c := .lst (xs ++ [y])) ⟨_, rfl, h2.append (RepVs.cons_mk r1 RepVs.nil_mk)⟩) _ rep_non⟩
      · rw [if_neg c] at wq; exact False.elim wq
    · exact False.elim wq
  · exact False.elim wq
/-- xs.pop() -/
def oPop : OM := fun v as st => match v, as with
  | .loc n, [] => match st[n]? with
    | some (.lst xs) => match xs[xs.length - 1]? with
      | some y => .ok y (st.set n (.lst xs.dropLast))
      | none => .bad
    | _ => .bad
  | _, _ => .bad
theorem t_pop : MtR X "list.pop" (rdM g oPop) := MtR.imp mt_pop fun x vs H Q ⟨ρ, st, a, as, S, ra, rs, wq⟩ => by
  unfold oPop at wq
  split at wq
  · rename_i n
    split at wq
    · rename_i xs hn
      cases e : xs[xs.length - 1]? with
      | none => rw [e] at wq; exact False.elim wq
      | some y =>
        rw [e] at wq
        obtain ⟨p, rfl, hp⟩ := ra.loc
        obtain ⟨ws, h1, h2⟩ := S.lst hp hn
        have hm : p ∈ ρ := List.mem_of_getElem? hp
        obtain ⟨v, h3, h4⟩ := h2.get e
        have hd : RepVs g ρ H xs.dropLast ws.dropLast := by
          rw [List.dropLast_eq_take, List.dropLast_eq_take, h2.length]
          exact h2.take _
        exact ⟨p, ws, v, rfl, rs.nil, h1, by rw [h2.length]; exact h3, wq ρ _ (Ext.put hm) (S.put hp (c := .lst xs.dropLast) ⟨_, rfl, hd⟩) _ (h4.ext (Ext.put hm))⟩
    · exact False.elim wq
  · exact False.elim wq
end
/-- a[i] = v, a list -/
def oSetIx (o i v : IV) (st : Store) : Option Store := match o, i with
  | .loc n, .int k => match st[n]? with
    | some (.lst xs) => match ixN xs.length k with
      | some j => some (st.set n (.lst (xs.set j v)))
      | none => none
    | _ => none
  | _, _ => none
/-- o[i] = v : the value first, then the object, the index -/
def mSetIx (f : IV → IV → IV → Store → Option Store) (mo mi mv : ME) : MS := fun sl st => (mv sl st).out sl fun v st1 => (mo sl st1).out sl fun o st2 => (mi sl st2).out sl fun i st3 => match f o i v st3 with
  | some st4 => .next sl st4
  | none => .bad
def rdSet (g : G) (f : IV → IV → IV → Store → Option Store) : TSet := fun o i v H Q => ∃ ρ st a b c, StR g ρ st H ∧ RepV g ρ H a o ∧ RepV g ρ H b i ∧ RepV g ρ H c v ∧ match f a b c st with
  | some st' => ∀ ρ' H', Ext ρ H ρ' H' → StR g ρ' st' H' → Q H'
  | none => False
theorem PSet.imp {X : Cx} {t t' : TSet} (h : PSet X t) (i : ∀ o k v H Q, t' o k v H Q → t o k v H Q) : PSet X t' := fun pins s σ H o k v ov iv u Q I r1 r2 r3 w => h pins s σ H o k v ov iv u Q I r1 r2 r3 (i o k v H Q w)
section
variable {X : Cx} {g : G} {W : WX} {o i e : Expr} {mo mi mv : ME} {f : IV → IV → IV → Store → Option Store} {pos pos' : Pos}
theorem p_setl : PSet X (rdSet g oSetIx) := PSet.imp set_list fun x y z H Q ⟨ρ, st, a, b, c, S, ra, rb, rc, wq⟩ => by
  unfold oSetIx at wq
  split at wq
  · rename_i st' he
    split at he
    · rename_i n k
      split at he
      · rename_i xs hn
        cases ej : ixN xs.length k with
        | none => rw [ej] at he; cases he
        | some j =>
          rw [ej] at he
          cases he
          obtain ⟨p, rfl, hp⟩ := ra.loc
          obtain ⟨ws, h1, h2⟩ := S.lst hp hn
          have hm : p ∈ ρ := List.mem_of_getElem? hp
          exact ⟨p, ws, k, j, rfl, rb.int, h1, by rw [h2.length]; exact ej, wq ρ _ (Ext.put hm) (S.put hp (c := .lst (xs.set j c)) ⟨_, rfl, h2.set j rc⟩)⟩
      · cases he
    · cases he
  · exact False.elim wq
theorem s_setix (hp : PSet X (rdSet g f)) (ho : SE X g W o mo) (hi : SE X g W i mi) (hv : SE X g W e mv) (hs : swapsWithSole [.Subscript o i pos'] e pos.line X.env = pure false := by rfl) (hw : swappedStores [.Subscript o i pos'] e X.env = pure none := by rfl)
    (h1 : (assignEach [.Subscript o i pos'] X.env).map (·.2) = [assign (.Subscript o i pos') X.env] := by rfl)
    (ha : ∀ v, assign (.Subscript o i pos') X.env v = (do
      let ov ← holding [v] (eval o X.env)
      let iv ← holding [v, ov] (eval i X.env)
      standAt pos'
      holding [v, ov, iv] (setItem ov iv v)
      release [v, ov, iv] []) := by intro _; rfl) : SS X g W (.Assign [.Subscript o i pos'] e pos) (mSetIx f mo mi mv) :=
  PS.imp (ps_asg hv (pg_sub ho hi hp ha) hs hw h1) fun D σ H ⟨ρ, sl, st, S, L, w⟩ => runES S L w fun v st1 ρ1 H1 x e1 S1 L1 r1 w1 => runES S1 L1 w1 fun ov st2 ρ2 H2 y e2 S2 L2' r2 w2 => runES S2 L2' w2 fun iv st3 ρ3 H3 z e3 S3 L3 r3 w3 => by
    refine ⟨ρ3, st3, ov, iv, v, S3, r2.ext e3, r3, (r1.ext e2).ext e3, ?_⟩
    cases ef : f ov iv v st3 with
    | none => rw [ef] at w3; exact False.elim w3
    | some st4 => rw [ef] at w3; exact fun ρ4 H4 e4 S4 => w3 ρ4 H4 σ e4 S4 (L3.ext e4)
/-- one or the other, by what is met -/
def mAlt (a b : ME) : ME := fun sl st => match a sl st with
  | .bad => b sl st
  | r => r
theorem s_alt {m1 m2 : ME} (h1 : SE X g W e m1) (h2 : SE X g W e m2) : SE X g W e (mAlt m1 m2) := PE.imp (PE.or h1 h2) fun σ H Q ⟨ρ, sl, st, S, L, w⟩ => by
  unfold mAlt at w
  cases e1 : m1 sl st with
  | bad => rw [e1] at w; exact .inr ⟨ρ, sl, st, S, L, w⟩
  | ok v st1 => rw [e1] at w; exact .inl ⟨ρ, sl, st, S, L, by rw [e1]; exact w⟩
  | exc c st1 => rw [e1] at w; exact .inl ⟨ρ, sl, st, S, L, by rw [e1]; exact w⟩
end
end Mi

set_option Elab.async false
set_option linter.all false
set_option maxRecDepth 100000
set_option maxHeartbeats 2000000
/-! Mi7: comprehensions as rules, globals, the law's own end. -/
namespace Mi
open PySem PySem.Spec PyProof.Rows L2

abbrev W0 : WX := fun _ _ _ _ => False
section
variable {X : Cx} {g : G} {W : WX} {elt tg iter c : Expr} {ifs : List Expr} {scope : Scope} {own : List (Str × Nat)} {pos : Pos} {mi : MI} {t : Tg} {test : MT} {m : ME}
theorem PTs.imp {e : List Expr} {t t' : TT} (h : PTs X e t) (i : ∀ σ H Q, t' σ H Q → t σ H Q) : PTs X e t' := ⟨fun pins s σ H Q I q => h.run pins s σ H Q I (i σ H Q q)⟩
abbrev SQ (X : Cx) (g : G) (ifs : List Expr) (m : MT) : Prop := PTs X ifs (rdT g W0 m)
theorem q_nil : SQ X g [] mYes := PTs.imp pts_nil fun σ H Q ⟨ρ, sl, st, S, L, w⟩ => w ρ H (Ext.refl _ _) S
theorem q_one (h : SC X g W0 c test) : SQ X g [c] test := pts_one h
theorem s_lc (own : List (Str × Nat)) (hc : X.calm = true) (hN : X.N.Nodup) (hi : SI X g W tg iter mi) (ok : BlkOk X.N X.env.scope scope own)
    (hg : ∀ (s : Shared) (H : Hp) (C : Addr) (cl : List (Str × Addr)) (fp : List Addr), ST (X.blk s H scope (compEnvC scope cl C X.env) fp) g tg t)
    (ht : ∀ (s : Shared) (H : Hp) (C : Addr) (cl : List (Str × Addr)) (fp : List Addr), SQ (X.blk s H scope (compEnvC scope cl C X.env) fp) g ifs test)
    (he : ∀ (s : Shared) (H : Hp) (C : Addr) (cl : List (Str × Addr)) (fp : List Addr), SE (X.blk s H scope (compEnvC scope cl C X.env) fp) g W0 elt m) (hs : ∀ x, foldedSetIterable iter X.env x = pure x := by intro _; rfl) :
    SE X g W (.ListComp elt [⟨tg, iter, ifs, 0⟩] scope pos) (mLc mi t (own.map (·.2)) test m) :=
  PE.imp (pe_lc hc hN hi ok hg ht he hs) fun _ _ _ h => tLc_of h
theorem s_setLc (i : Nat) (own : List (Str × Nat)) {y : Str} {py spos : Pos} (hc : X.calm = true) (hN : X.N.Nodup)
    (hi : SI X g W tg iter mi) (ok : BlkOk X.N X.env.scope scope own)
    (hg : ∀ (s : Shared) (H : Hp) (C : Addr) (cl : List (Str × Addr)) (fp : List Addr), ST (X.blk s H scope (compEnvC scope cl C X.env) fp) g tg t)
    (ht : ∀ (s : Shared) (H : Hp) (C : Addr) (cl : List (Str × Addr)) (fp : List Addr), SQ (X.blk s H scope (compEnvC scope cl C X.env) fp) g ifs test)
    (he : ∀ (s : Shared) (H : Hp) (C : Addr) (cl : List (Str × Addr)) (fp : List Addr), SE (X.blk s H scope (compEnvC scope cl C X.env) fp) g W0 elt m)
    (hy : X.N[i]? = some y := by rfl) (hyl : X.env.scope.names.lookup y = some .local := by rfl) (hk : X.env.scope.kind = .function := by rfl) (hl : (py.line == pos.line) = true := by rfl)
    (ha : (scope.names.any fun (n, k) => n == y && (k == .local || k == .cell)) = false := by decide +kernel) (hs : ∀ x, foldedSetIterable iter X.env x = pure x := by intro _; rfl) :
    SS X g W (.Assign [.Name y py] (.ListComp elt [⟨tg, iter, ifs, 0⟩] scope pos) spos) (mSet i (mLc mi t (own.map (·.2)) test m)) :=
  PS.imp (ps_setLc hc hN hy hyl (sw_true hk hyl hl ha) hi ok hg ht he hs) fun D σ H ⟨ρ, sl, st, S, L, w⟩ => by
    refine tLc_of (runES S L w fun v st1 ρ1 H1 x e1 S1 L1 r1 w1 => ?_)
    exact w1 ρ1 H1 _ (Ext.refl _ _) S1 (L1.set i r1)
/-- where the target's name is a cell, the list is stored as any value -/
theorem s_setLcC (i : Nat) (own : List (Str × Nat)) {y : Str} {py spos : Pos} (hc : X.calm = true) (hN : X.N.Nodup)
    (hi : SI X g W tg iter mi) (ok : BlkOk X.N X.env.scope scope own)
    (hg : ∀ (s : Shared) (H : Hp) (C : Addr) (cl : List (Str × Addr)) (fp : List Addr), ST (X.blk s H scope (compEnvC scope cl C X.env) fp) g tg t)
    (ht : ∀ (s : Shared) (H : Hp) (C : Addr) (cl : List (Str × Addr)) (fp : List Addr), SQ (X.blk s H scope (compEnvC scope cl C X.env) fp) g ifs test)
    (he : ∀ (s : Shared) (H : Hp) (C : Addr) (cl : List (Str × Addr)) (fp : List Addr), SE (X.blk s H scope (compEnvC scope cl C X.env) fp) g W0 elt m)
    (hy : X.N[i]? = some y := by rfl) (hx : Loc X.env.scope y := by first | exact .inl rfl | exact .inr rfl)
    (hsw : swapsWith (.ListComp elt [⟨tg, iter, ifs, 0⟩] scope pos) (some (.Name y py)) spos.line X.env = pure false := by rfl) (hf : X.fn y = true ∨ X.env.scope.names.lookup y = some .local := by first | exact .inl rfl | exact .inr rfl)
    (hs : ∀ x, foldedSetIterable iter X.env x = pure x := by intro _; rfl) :
    SS X g W (.Assign [.Name y py] (.ListComp elt [⟨tg, iter, ifs, 0⟩] scope pos) spos) (mSet i (mLc mi t (own.map (·.2)) test m)) :=
  s_set i hN (s_lc own hc hN hi ok hg ht he hs) hy hx hsw hf
end
section
variable {X : Cx} {g : G} {W : WX} {x : Str} {pos : Pos} {i : Int}
theorem s_glob (hm : ∃ t, X.mg x = some (.int i t)) (hg : Gl X x := by rfl) (hd : (x == ("__debug__" : Str)) = false := by decide) : SE X g W (.Name x pos) (mC (.int i)) := by
  obtain ⟨t, ht⟩ := hm
  exact s_c (pe_glob (v := .int i) hg ht ⟨t, rfl⟩ hd) fun _ _ => rep_int
theorem s_globS {s : List Nat} (hm : ∃ t, X.mg x = some (.str ⟨s.toArray⟩ t)) (hg : Gl X x := by rfl) (hd : (x == ("__debug__" : Str)) = false := by decide) : SE X g W (.Name x pos) (mC (.str s)) := by
  obtain ⟨t, ht⟩ := hm
  exact s_c (pe_glob (v := .str ⟨s.toArray⟩) hg ht ⟨t, rfl⟩ hd) fun _ _ => rep_str
end

/-! ### the law's own end -/
/-- a list of at most 63 ints is handed in, nothing else is tracked; True comes out -/
def spLaw (K : PySem.W.Frag) : Sp := fun vs H Q _ => ∃ (a : Addr) (ns : List Int), vs = [.ref a] ∧ SqL K H a (ns.map V.int) ∧ ns.length ≤ 63 ∧ ∀ H', Q (.bl true) H'
theorem law_end {g : G} {F : FN} (hF : ∀ ns : List Int, ns.length ≤ 63 → ∃ st, F [.ro (ns.map .int)] [] = .ok (.bl true) st) {vs : List V} {H : Hp} {Q : VK} {E : XK} (h : spLaw g.K vs H Q E) : spOf g 1 F vs H Q E := by
  obtain ⟨a, ns, rfl, hs, hl, q⟩ := h
  obtain ⟨st, e⟩ := hF ns hl
  refine ⟨rfl, [], [], [.ro (ns.map .int)], ⟨rfl, List.nodup_nil, fun n a c h => by simp at h⟩, RepVs.cons_mk ?_ RepVs.nil_mk, ?_⟩
  · unfold RepV
    refine ⟨a, ns.map V.int, rfl, ?_, ?_⟩
    · rcases hs with hs | hs
      · exact .inl ⟨by simp, hs⟩
      · exact .inr (.inr hs)
    · clear e hs hl q
      induction ns with
      | nil => exact RepVs.nil_mk
      | cons n ns ih => exact RepVs.cons_mk rep_int ih
  · rw [e]
    intro ρ' H' _ _ x r
    rw [r.bl]
    exact q H'
/-- nothing is let out of the law -/
theorem cx_false {P : Program} {w : World} {H : Hp} {s : Shared} {e : Value} {s' : Shared} (h : L2.CX P w [] H s (fun _ _ _ => False) e s') : False := by
  obtain ⟨a, B, H', cls, d, _, _, _, _, _, _, _, h⟩ := h
  exact h
end Mi

set_option Elab.async false
set_option linter.all false
set_option maxRecDepth 100000
set_option maxHeartbeats 2000000
/-! Mi8: further rules. -/
namespace Mi
open PySem PySem.Spec PyProof.Rows L2

section
variable {X : Cx} {g : G} {W : WX}
/-- products: ints -/
def oMul : O2 := fun a b st => match a, b with
  | .int i, .int j => if cMul i j = true then .ok (.int (i * j)) st else .bad
  | _, _ => .bad
theorem p_mul : OpR X (binaryOp .Mult) (rd2 g oMul) := OpR.imp p_mulI fun x y H Q ⟨ρ, st, a, b, S, ra, rb, wq⟩ => by
  refine ⟨ρ, st, a, b, S, ra, rb, ?_⟩
  unfold oMul at wq
  split at wq
  · exact wq
  · exact False.elim wq
def oNeg : IV → Store → Res IV := fun a st => match a with
  | .int i => .ok (.int (-i)) st
  | _ => .bad
theorem p_neg : UnR X (unaryOp .USub) (rd1 g oNeg) := UnR.imp un_neg fun x H Q ⟨ρ, st, a, S, ra, wq⟩ => by
  unfold oNeg at wq
  split at wq
  · exact ⟨_, ra.int, want_val wq S rep_int⟩
  · exact False.elim wq
/-- order of ints, of texts -/
def oLt : O2 := fun a b st => match a, b with
  | .int i, .int j => .ok (.bl (decide (i < j))) st
  | .str s, .str t => .ok (.bl (decide (s < t))) st
  | _, _ => .bad
def oLe : O2 := fun a b st => match a, b with
  | .int i, .int j => .ok (.bl (decide (i ≤ j))) st
  | _, _ => .bad
def oGt : O2 := fun a b st => match a, b with
  | .int i, .int j => .ok (.bl (decide (j < i))) st
  | _, _ => .bad
def oGe : O2 := fun a b st => match a, b with
  | .int i, .int j => .ok (.bl (decide (j ≤ i))) st
  | _, _ => .bad
theorem p_ltA {k : Nat} (hK : X.K = g.K) (hr : Room k X.A) : OpR X (compareOp .Lt) (rd2 g oLt) := OpR.imp (op_lt.or op_lt_str) fun x y H Q ⟨ρ, st, a, b, S, ra, rb, wq⟩ => by
  unfold oLt at wq
  split at wq
  · exact .inl ⟨_, _, ra.int, rb.int, want_val wq S rep_bl⟩
  · exact .inr ⟨_, _, ra.str, rb.str, want_val wq S rep_bl⟩
  · exact False.elim wq
theorem p_leA : OpR X (compareOp .LtE) (rd2 g oLe) := OpR.imp op_le fun x y H Q ⟨ρ, st, a, b, S, ra, rb, wq⟩ => by
  unfold oLe at wq
  split at wq
  · exact ⟨_, _, ra.int, rb.int, want_val wq S rep_bl⟩
  · exact False.elim wq
theorem p_gtA : OpR X (compareOp .Gt) (rd2 g oGt) := OpR.imp op_gt fun x y H Q ⟨ρ, st, a, b, S, ra, rb, wq⟩ => by
  unfold oGt at wq
  split at wq
  · exact ⟨_, _, ra.int, rb.int, want_val wq S rep_bl⟩
  · exact False.elim wq
theorem p_geA : OpR X (compareOp .GtE) (rd2 g oGe) := OpR.imp op_ge fun x y H Q ⟨ρ, st, a, b, S, ra, rb, wq⟩ => by
  unfold oGe at wq
  split at wq
  · exact ⟨_, _, ra.int, rb.int, want_val wq S rep_bl⟩
  · exact False.elim wq
def oSetAny : IV → IV → IV → Store → Option Store := oSetIx
theorem p_setany (hu : X.A.units + 1 < cLine) : PSet X (rdSet g oSetAny) := p_setl
end

/-! ### what is caught -/
structure CatchAt (K : PySem.W.Frag) (mg : Str → Option Value) (g : G) (x : Str) (catches : Nat → Bool) : Prop where
  ex : ∃ C : Addr, mg x = some (.ref C) ∧ ∀ (i : Nat) (D : Addr), g.exc[i]? = some D → PySem.W.exmOne K (.ref D) (.ref C) = some (catches i)
def ExL (K : PySem.W.Frag) (C : Value) : List Addr → List Bool → Prop
  | [], [] => True
  | e :: es, b :: bs => PySem.W.exmOne K (.ref e) C = some b ∧ ExL K C es bs
  | _, _ => False
theorem exNil {K : PySem.W.Frag} {C : Value} : ExL K C [] [] := True.intro
theorem exCons {K : PySem.W.Frag} {C : Value} {e : Addr} {es : List Addr} {b : Bool} {bs : List Bool} (h : PySem.W.exmOne K (.ref e) C = some b) (r : ExL K C es bs) : ExL K C (e :: es) (b :: bs) := ⟨h, r⟩
theorem exAll {K : PySem.W.Frag} {C : Value} : ∀ {es : List Addr} {bs : List Bool}, ExL K C es bs → ∀ (i : Nat) (D : Addr), es[i]? = some D → PySem.W.exmOne K (.ref D) C = some (bs.getD i false)
  | [], [], _, i, D, h => by simp at h
  | e :: es, b :: bs, r, 0, D, h => by
    simp at h
    subst h
    exact r.1
  | e :: es, b :: bs, r, i + 1, D, h => by
    have := exAll r.2 i D (by simpa using h)
    simpa using this
  | [], _ :: _, r, _, _, _ => r.elim
  | _ :: _, [], r, _, _, _ => r.elim
theorem noFld {l : List Str} {m : Str} (h : l.contains m = false) (i : Nat) : l[i]? ≠ some m := fun z => by
  have := List.mem_of_getElem? z
  rw [List.contains_eq_mem] at h
  simp [this] at h
section
variable {X : Cx} {g : G} {W : WX}
theorem s_tryC {e : Str} {body suite : List Stmt} {b0 : Stmt} {np pos pos' : Pos} {mb : MS} {catches : Nat → Bool} {ms : Nat → MS} (T : CatchAt X.K X.mg g e catches) (hs : X.stack = X.env :: X.outer) (hf : X.env.frame = some X.env.locals) (tk : Takes X W)
    (hb : ∀ (W' : WX) (pn : List (Addr × Obj)) (xe : Value → Shared → Prop), Takes (X.tr pn xe) W' → PassesOwn (model X.prog X.w) X.A X.env xe → SB (X.tr pn xe) g W' body mb)
    (hsu : ∀ (i : Nat) (D : Addr), g.exc[i]? = some D → ∀ (a : Addr) (oe : Obj) (pn : List (Addr × Obj)), Zc (.ref D) none oe → (∃ vs, oe.data = .fields vs) → SB (X.suite a ((a, oe) :: pn)) g (fun _ _ _ _ => False) (b0 :: suite) (ms i))
    (hg : Gl X e := by rfl) (hd : (e == ("__debug__" : Str)) = false := by decide) :
    SS X g W (.Try body [.ExceptHandler (some (.Name e np)) none (b0 :: suite) pos'] [] [] pos) (mTry mb catches ms) := by
  obtain ⟨C, hm, hx⟩ := T.ex
  exact s_try (C := .ref C) hs hf ⟨hg, hd, .inl hm⟩ tk hx hb hsu
/-- a test upon another, as a value -/
theorem s_v_chain {op op' : CmpOp} {a b c : Expr} {ma mb mc : ME} {o o' : O2} {pos : Pos} (ho : OpR X (compareOp op) (rd2 g o)) (ho' : OpR X (compareOp op') (rd2 g o')) (ha : SE X g W a ma) (hb : SE X g W b mb) (hc : SE X g W c mc)
    (hm : lastMarks [op, op'] [b, c] = false := by with_unfolding_all rfl) : SE X g W (.Compare a [op, op'] [b, c] pos) (mVal (mChain o o' ma mb mc)) := PE.imp (pe_chain ho ho' ha hb hc hm) fun σ H Q h => by
  obtain ⟨ρ, sl, st, S, L, w⟩ := h
  have w' : want g W σ ρ H (qE g Q) ((mChain o o' ma mb mc sl st).andThen fun d st1 => .ok (.bl d) st1) := w
  exact tChain_of ⟨ρ, sl, st, S, L, want.step w' fun v st1 ρ1 H1 e1 S1 w1 => w1 ρ1 H1 (Ext.refl _ _) S1 _ rep_bl⟩

/-! ### len of an own instance -/
def mLenOwn (c : Nat) (F : FN) (m : ME) : ME := fun sl st => gcV st ((m sl st).andThen fun v st1 => if isIns c v st1 = true then (calmR (F [v] st1)).andThen fun r st2 => match r with
  | .int n => if 0 ≤ n ∧ n < 2 ^ 62 then .ok (.int n) st2 else .bad
  | _ => .bad
  else .bad)
theorem run_in1 {pins : List (Addr × Obj)} {σ : L2.St} {H : Hp} {s : Shared} {Q : VK} {k : Nat} {f : Addr} {fd : FuncData} {ps : List Str} {sp : Sp} {us : List Value} {vs : List V} {E' : Value → Shared → Prop} (Fk : FnOk X.prog X.w X.K X.mg X.base (L2.CX X.prog X.w) k f fd ps sp) (hr : Room (k + 1) X.A) (hb : Binds X.K fd ps []) (I : Inv X pins σ H s) (r : Vals vs us) (h : sp vs H Q fun _ _ _ => False) :
    wpAny (model X.prog X.w) X.A.in1 (PySem.call (.ref f) us) (EP X pins σ Q) E' s := by
  have hl : us.length = ps.length := by rw [← r.length]; exact Fk.len _ _ _ _ h
  have b := hb s us I.kIn (by rw [List.append_nil]; exact hl)
  rw [List.append_nil] at b
  refine wpAny_call (codeAny_mono (Fk.run X.A.in1 X.stack s H ⟨us, []⟩ us vs Q (fun _ _ _ => False) hr.in1 I.env0.in1 b r h) fun r s' hq => ?_)
  cases r with
  | error e =>
    obtain ⟨a, B, H', cls, d, _, _, _, _, _, _, _, h⟩ := (show L2.CX X.prog X.w X.stack H s (fun _ _ _ => False) e s' from hq)
    exact h.elim
  | ok fl =>
    cases fl with
    | ret u => exact I.after hq
    | next => exact False.elim hq
    | brk => exact False.elim hq
    | cont => exact False.elim hq
theorem c_lenOwn {c : Nat} {k : Nat} {F : FN} (D : MethAt X.prog X.w X.K X.mg X.base g k c "__len__" 1 F) (hr : Room (k + 1) X.A) : CallR X (.builtin "len") (fun xs H Q => ∃ ρ st n, StR g ρ st H ∧ isIns c (.loc n) st = true ∧ RepVs g ρ H [.loc n] xs ∧
    want g W0 [] ρ H (qE g Q) ((calmR (F [.loc n] st)).andThen fun r st2 => match r with
      | .int n => if 0 ≤ n ∧ n < 2 ^ 62 then .ok (.int n) st2 else .bad
      | _ => .bad)) := by
  obtain ⟨C, f, fd, ps, hC, hc, hm, hb, hl, Fk⟩ := D.ex
  intro pins s σ H xs us Q I r h
  obtain ⟨ρ, st, n, S, hi, rx, wq⟩ := h
  obtain ⟨n', fs, e, hn⟩ := isIns_eq hi
  cases e
  obtain ⟨v, rfl, r1⟩ := rx.one
  obtain ⟨ad, rfl, had⟩ := r1.loc
  obtain ⟨C', dx, ks, h1, h2, h3⟩ := S.ins had hn
  rw [hC] at h2
  cases h2
  obtain ⟨u, rfl, ru⟩ := vals1 r
  obtain rfl : u = Value.ref ad := ru
  obtain ⟨mA, O, _, _, _, _⟩ := ins_get I.hok h1
  obtain ⟨od, J, _⟩ := O.look
  obtain ⟨mf, Fr⟩ := I.fr
  refine PySem.W.len_K Fr I.ok.mod.kin J hm.at_ hm.fn (thn (run_in1 (Q := fun v H' => ∃ n : Int, v = .int n ∧ (0 ≤ n ∧ n < 2 ^ 62) ∧ Q (.int n) H') (vs := [.ref ad]) Fk hr hb I (.cons rfl .nil) ?_) fun w s' hw => ?_)
  · refine ⟨by rw [hl]; rfl, ρ, st, [.loc n], S, RepVs.cons_mk r1 RepVs.nil_mk, ?_⟩
    cases e : F [.loc n] st with
    | bad => rw [e] at wq; exact wq
    | exc _ _ => rw [e] at wq; exact False.elim wq
    | ok y st2 =>
      rw [e] at wq
      cases y with
      | int i =>
        simp only [calmR_ok, Res.andThen_ok] at wq
        by_cases q : 0 ≤ i ∧ i < 2 ^ 62
        · rw [if_pos q] at wq
          intro ρ' H' e' S' x r'
          exact ⟨i, r'.int, q, wq ρ' H' e' S' _ rep_int⟩
        · rw [if_neg q] at wq; exact False.elim wq
      | _ => exact False.elim wq
  · obtain ⟨v, H', I', rv, i, rfl, hb2, q⟩ := hw
    obtain ⟨t, rfl⟩ := rv
    exact ⟨⟨hb2.1, by omega⟩, .int i, H', I'.tok _, ⟨_, rfl⟩, q⟩
theorem s_lenOwn {c : Nat} {k : Nat} {F : FN} {e : Expr} {m : ME} {p pos : Pos} (D : MethAt X.prog X.w X.K X.mg X.base g k c "__len__" 1 F) (hr : Room (k + 1) X.A) (hm : X.mg "len" = none) (he : SE X g W e m) (hg : Gl X "len" := by rfl)
    (hs : starEach [e] X.env = (false, eval e X.env) :: starEach [] X.env := by rfl) (hpl : (backTo pos (starEach [] X.env)).any (·.1) = false := by rfl) : SE X g W (.Call (.Name "len" p) [e] [] pos) (mLenOwn c F m) :=
  PE.imp (pe_callB (c_lenOwn D hr) hg hm PySem.boot_len (pa_cons he pa_nil hs) (by decide) (by decide) hs hpl) fun σ H Q ⟨ρ, sl, st, S, L, w⟩ => runE S L (want.gcE S w) fun v st1 ρ1 H1 x e1 S1 L1 r1 w1 => by
    by_cases hi : isIns c v st1 = true
    · rw [if_pos hi] at w1
      obtain ⟨n, fs, rfl, hn⟩ := isIns_eq hi
      refine ⟨ρ1, st1, n, S1, hi, RepVs.cons_mk r1 RepVs.nil_mk, ?_⟩
      cases e : F [.loc n] st1 with
      | bad => rw [e] at w1; exact w1
      | exc _ _ => rw [e] at w1; exact False.elim w1
      | ok y st2 =>
        rw [e] at w1
        cases y with
        | int i =>
          simp only [calmR_ok, Res.andThen_ok] at w1 ⊢
          by_cases q : 0 ≤ i ∧ i < 2 ^ 62
          · rw [if_pos q] at w1 ⊢; exact w1
          · rw [if_neg q] at w1; exact False.elim w1
        | _ => exact False.elim w1
    · rw [if_neg hi] at w1; exact False.elim w1
end
end Mi

set_option Elab.async false
set_option linter.all false
set_option maxRecDepth 100000
set_option maxHeartbeats 4000000
/-! Mi9: reckoning with plain machines; the laws' own draws. -/
namespace Mi
open PySem L2

@[simp] theorem gcV_same (v : IV) (st : Store) : gcV st (.ok v st) = .ok v st := by
  simp [gcV]
theorem gcV_new {v : IV} {st : Store} {l : Store} (h : v.und st.length = true) : gcV st (.ok v (st ++ l)) = .ok v st := by
  simp [gcV, h]
theorem gcV_loc {n : Nat} {st st' : Store} (h : st.length ≤ n) : gcV st (.ok (.loc n) st') = .ok (.loc n) st' := by
  have : ¬ n < st.length := by omega
  simp [gcV, IV.und, this]
theorem gcV_len {v : IV} {st st' : Store} (h : st'.length = st.length) : gcV st (.ok v st') = .ok v st' := by
  have : st'.take st.length = st' := by rw [← h, List.take_length]
  simp only [gcV, this]
  by_cases e : st' = st
  · subst e; simp
  · simp [e]
@[simp] theorem gcV_bad (st : Store) : gcV st .bad = .bad := rfl
@[simp] theorem gcV_excS (c : Nat) (st : Store) : gcV st (.exc c st) = .exc c st := by simp [gcV]
theorem gcV_excN {c : Nat} {st l : Store} : gcV st (.exc c (st ++ l)) = .exc c st := by simp [gcV]
theorem gcV_excL {c : Nat} {st st' : Store} (h : st'.length = st.length) : gcV st (.exc c st') = .exc c st' := by
  have : st'.take st.length = st' := by rw [← h, List.take_length]
  simp only [gcV, this]
  by_cases e : st' = st
  · subst e; simp
  · simp [e]
@[simp] theorem gcB_same (v : Bool) (st : Store) : gcB st (.ok v st) = .ok v st := by simp [gcB]
@[simp] theorem gcB_new {v : Bool} {st l : Store} : gcB st (.ok v (st ++ l)) = .ok v st := by simp [gcB]
@[simp] theorem gcB_bad (st : Store) : gcB st .bad = .bad := rfl
theorem gcB_len {v : Bool} {st st' : Store} (h : st'.length = st.length) : gcB st (.ok v st') = .ok v st' := by
  have : st'.take st.length = st' := by rw [← h, List.take_length]
  simp only [gcB, this]
  by_cases e : st' = st
  · subst e; simp
  · simp [e]
@[simp] theorem und_int (n : Nat) (i : Int) : (IV.int i).und n = true := rfl
@[simp] theorem und_str (n : Nat) (i : List Nat) : (IV.str i).und n = true := rfl
@[simp] theorem und_bl (n : Nat) (i : Bool) : (IV.bl i).und n = true := rfl
@[simp] theorem und_non (n : Nat) : (IV.non).und n = true := rfl
@[simp] theorem und_tup (n : Nat) (xs : List IV) : (IV.tup xs).und n = IV.unds n xs := rfl
@[simp] theorem und_ro (n : Nat) (xs : List IV) : (IV.ro xs).und n = IV.unds n xs := rfl
@[simp] theorem und_loc (n k : Nat) : (IV.loc k).und n = decide (k < n) := rfl
@[simp] theorem unds_nil (n : Nat) : IV.unds n [] = true := rfl
@[simp] theorem unds_cons (n : Nat) (x : IV) (xs : List IV) : IV.unds n (x :: xs) = (x.und n && IV.unds n xs) := rfl
theorem unds_all {n : Nat} {xs : List IV} (h : ∀ x ∈ xs, x.und n = true) : IV.unds n xs = true := by
  induction xs with
  | nil => rfl
  | cons x xs ih => rw [unds_cons, h x List.mem_cons_self, ih fun y hy => h y (List.mem_cons_of_mem _ hy)]; rfl
@[simp] theorem unds_ints (n : Nat) (xs : List Int) : IV.unds n (xs.map .int) = true := unds_all fun x hx => by
  obtain ⟨i, _, rfl⟩ := List.mem_map.mp hx; rfl
@[simp] theorem unds_strs (n : Nat) (xs : List (List Nat)) : IV.unds n (xs.map .str) = true := unds_all fun x hx => by
  obtain ⟨i, _, rfl⟩ := List.mem_map.mp hx; rfl
@[simp] theorem unds_bls (n : Nat) (xs : List Bool) : IV.unds n (xs.map .bl) = true := unds_all fun x hx => by
  obtain ⟨i, _, rfl⟩ := List.mem_map.mp hx; rfl

@[simp] theorem oIntC_int (i : Int) (st : Store) : oIntC [.int i] st = .ok (.int i) st := rfl
@[simp] theorem oAbs_int (i : Int) (st : Store) : oAbs [.int i] st = .ok (.int (if i < 0 then -i else i)) st := rfl
@[simp] theorem oLt_int (i j : Int) (st : Store) : oLt (.int i) (.int j) st = .ok (.bl (decide (i < j))) st := rfl
@[simp] theorem oLe_int (i j : Int) (st : Store) : oLe (.int i) (.int j) st = .ok (.bl (decide (i ≤ j))) st := rfl
@[simp] theorem oGt_int (i j : Int) (st : Store) : oGt (.int i) (.int j) st = .ok (.bl (decide (j < i))) st := rfl
@[simp] theorem oGe_int (i j : Int) (st : Store) : oGe (.int i) (.int j) st = .ok (.bl (decide (j ≤ i))) st := rfl
@[simp] theorem oEq_int (i j : Int) (st : Store) : oEq (.int i) (.int j) st = .ok (.bl (decide (i = j))) st := rfl
@[simp] theorem oNe_int (i j : Int) (st : Store) : oNe (.int i) (.int j) st = .ok (.bl (!decide (i = j))) st := rfl
@[simp] theorem oEq_str (i j : List Nat) (st : Store) : oEq (.str i) (.str j) st = .ok (.bl (decide (i = j))) st := rfl
@[simp] theorem oNe_str (i j : List Nat) (st : Store) : oNe (.str i) (.str j) st = .ok (.bl (!decide (i = j))) st := rfl
@[simp] theorem oNe_non_int (j : Int) (st : Store) : oNe .non (.int j) st = .ok (.bl true) st := rfl
@[simp] theorem oIs_non (a : IV) (st : Store) : oIs a .non st = .ok (.bl (decide (a = .non))) st := rfl
@[simp] theorem oIsNot_non (a : IV) (st : Store) : oIsNot a .non st = .ok (.bl (!decide (a = .non))) st := rfl
@[simp] theorem oMul_int (i j : Int) (st : Store) : oMul (.int i) (.int j) st = if cMul i j = true then .ok (.int (i * j)) st else .bad := rfl
@[simp] theorem oNeg_int (i : Int) (st : Store) : oNeg (.int i) st = .ok (.int (-i)) st := rfl
@[simp] theorem cAny_eq (i j : Int) : cAny i j = true := rfl
theorem oIx_tup (xs : List IV) (i : Int) (st : Store) : oIx (.tup xs) (.int i) st = match atI xs i with | some v => .ok v st | none => .bad := rfl
theorem oIx_loc (n : Nat) (i : Int) (st : Store) : oIx (.loc n) (.int i) st = match seqOf st (.loc n) with | some xs => (match atI xs i with | some v => .ok v st | none => .bad) | none => .bad := rfl
theorem oIx_lst {n : Nat} {st : Store} {xs : List IV} (h : st[n]? = some (.lst xs)) (i : Int) : oIx (.loc n) (.int i) st = match atI xs i with | some v => .ok v st | none => .bad := by
  simp [oIx_loc, seqOf, h]
theorem atI_of {xs : List α} {i : Int} {k : Nat} {v : α} (hi : i = k) (h : xs[k]? = some v) : atI xs i = some v := by
  subst hi
  exact atI_nat h

/-! ### the draws of a law -/
def b_take : MS := mSeq (mIf (mAnd (mTest (mOp oEq (mOp oIx (mVar 0) (mC (.int 2))) (mC (.int 0)))) (mTest (mOp oLt (mOp oIx (mVar 0) (mC (.int 1))) (mCall oLen (aCons (mOp oIx (mVar 0) (mC (.int 0))) (aNil)))))) (mSeq (mSetIx oSetAny (mVar 0) (mC (.int 2)) (mCall oAbs (aCons (mCall oIntC (aCons (mOp oIx (mOp oIx (mVar 0) (mC (.int 0))) (mOp oIx (mVar 0) (mC (.int 1)))) (aNil))) (aNil)))) (mSeq (mSetIx oSetAny (mVar 0) (mC (.int 1)) (mOp oAdd (mOp oIx (mVar 0) (mC (.int 1))) (mC (.int 1)))) (mSeq (mIf (mTest (mOp oLt (mOp oIx (mVar 0) (mC (.int 2))) (mOp oPow (mC (.int 10)) (mC (.int 18))))) (mSeq (mSet 2 (mCall oIntC (aCons (mOp oIx (mVar 0) (mC (.int 2))) (aNil)))) (mSeq (mSetIx oSetAny (mVar 0) (mC (.int 2)) (mC (.int 0))) (mSeq (mRet (mOp oMod (mVar 2) (mVar 1))) (mEnd)))) (mEnd)) (mEnd)))) (mEnd)) (mSeq (mIf (mTest (mOp oGt (mOp oIx (mVar 0) (mC (.int 2))) (mC (.int 0)))) (mSeq (mSet 3 (mOp oMod (mCall oIntC (aCons (mOp oIx (mVar 0) (mC (.int 2))) (aNil))) (mVar 1))) (mSeq (mSetIx oSetAny (mVar 0) (mC (.int 2)) (mOp oDiv (mCall oIntC (aCons (mOp oIx (mVar 0) (mC (.int 2))) (aNil))) (mVar 1))) (mSeq (mRet (mVar 3)) (mEnd)))) (mEnd)) (mSeq (mSetIx oSetAny (mVar 0) (mC (.int 3)) (mOp oMod (mCall oIntC (aCons (mOp oAdd (mOp oMul (mOp oIx (mVar 0) (mC (.int 3))) (mC (.int 48271))) (mC (.int 11))) (aNil))) (mC (.int 2147483647)))) (mSeq (mRet (mOp oMod (mCall oIntC (aCons (mOp oDiv (mOp oIx (mVar 0) (mC (.int 3))) (mC (.int 3))) (aNil))) (mVar 1))) (mEnd))))
def F_take : FN := defF 2 b_take
/-- where the draws stand -/
def dSt (c : List Int) (p r s : Int) : Store := [.lst (c.map .int), .lst [.loc 0, .int p, .int r, .int s]]
structure dOk (c : List Int) (p r s : Int) : Prop where
  len : c.length ≤ 63
  p0 : 0 ≤ p
  r0 : 0 ≤ r
  s0 : 0 ≤ s
  s1 : s < 2147483647
theorem seqOf_d0 (c : List Int) (p r s : Int) (l : Store) : seqOf (dSt c p r s ++ l) (.loc 0) = some (c.map .int) := rfl
theorem seqOf_d1 (c : List Int) (p r s : Int) (l : Store) : seqOf (dSt c p r s ++ l) (.loc 1) = some [.loc 0, .int p, .int r, .int s] := rfl
theorem setIx_d2 (c : List Int) (p r s : Int) (l : Store) (v : Int) : oSetAny (.loc 1) (.int 2) (.int v) (dSt c p r s ++ l) = some (dSt c p v s ++ l) := rfl
theorem setIx_d1 (c : List Int) (p r s : Int) (l : Store) (v : Int) : oSetAny (.loc 1) (.int 1) (.int v) (dSt c p r s ++ l) = some (dSt c v r s ++ l) := rfl
theorem setIx_d3 (c : List Int) (p r s : Int) (l : Store) (v : Int) : oSetAny (.loc 1) (.int 3) (.int v) (dSt c p r s ++ l) = some (dSt c p r v ++ l) := rfl
theorem ix_d (c : List Int) (p r s : Int) (l : Store) : oIx (.loc 1) (.int 2) (dSt c p r s ++ l) = .ok (.int r) (dSt c p r s ++ l) ∧ oIx (.loc 1) (.int 1) (dSt c p r s ++ l) = .ok (.int p) (dSt c p r s ++ l) ∧
    oIx (.loc 1) (.int 3) (dSt c p r s ++ l) = .ok (.int s) (dSt c p r s ++ l) ∧ oIx (.loc 1) (.int 0) (dSt c p r s ++ l) = .ok (.loc 0) (dSt c p r s ++ l) := ⟨rfl, rfl, rfl, rfl⟩
theorem len_d (c : List Int) (p r s : Int) (l : Store) : oLen [.loc 0] (dSt c p r s ++ l) = .ok (.int c.length) (dSt c p r s ++ l) := by
  show (Res.ok (IV.int ((c.map IV.int).length)) _ : Res IV) = _
  rw [List.length_map]
theorem dSt_length (c : List Int) (p r s : Int) (l : Store) : (dSt c p r s ++ l).length = l.length + 2 := by simp [dSt]
theorem gc_d {c : List Int} {p r s p' r' s' : Int} {l : Store} (v : IV) : gcV (dSt c p r s ++ l) (.ok v (dSt c p' r' s' ++ l)) = .ok v (dSt c p' r' s' ++ l) := gcV_len (by rw [dSt_length, dSt_length])
theorem take_ok {c : List Int} {p r s m : Int} (d : dOk c p r s) (h0 : 0 < m) (h1 : m < 1073741824) (l : Store) :
    ∃ v p' r' s', F_take [.loc 1, .int m] (dSt c p r s ++ l) = .ok (.int v) (dSt c p' r' s' ++ l) ∧ dOk c p' r' s' ∧ 0 ≤ v ∧ v < m := by
  obtain ⟨hl, p0, r0, s0, s1⟩ := d
  have i2 := fun p r s => (ix_d c p r s l).1
  have i1 := fun p r s => (ix_d c p r s l).2.1
  have i3 := fun p r s => (ix_d c p r s l).2.2.1
  have i0 := fun p r s => (ix_d c p r s l).2.2.2
  have ln := fun p r s => len_d c p r s l
  have hm : cMod 0 m = true := decide_eq_true h0
  have hcm : ∀ x, cMod x m = true := fun x => decide_eq_true h0
  have hcd : ∀ x, cDiv x m = true := fun x => by unfold cDiv; simp [h0, h1]
  have hcd3 : ∀ x, cDiv x 3 = true := fun x => by unfold cDiv; decide
  have hmul : ∀ x, cMul x 48271 = true := fun x => by unfold cMul cSmall; simp
  have hmod : ∀ x, cMod x 2147483647 = true := fun x => by unfold cMod; decide
  have hpow : cPow 10 18 = true := by unfold cPow; decide
  have vmod : ∀ x : Int, 0 ≤ x % m ∧ x % m < m := fun x => ⟨Int.emod_nonneg _ (by omega), Int.emod_lt_of_pos _ h0⟩
  unfold F_take defF b_take
  by_cases hc : r = 0 ∧ p < c.length
  · obtain ⟨hr, hp⟩ := hc
    subst hr
    obtain ⟨k, rfl⟩ : ∃ k : Nat, p = k := ⟨p.toNat, by omega⟩
    have hk : k < c.length := by omega
    have ic : ∀ r s, oIx (.loc 0) (.int (k : Int)) (dSt c k r s ++ l) = .ok (.int c[k]) (dSt c k r s ++ l) := fun r s => by
      rw [oIx_loc, seqOf_d0]
      simp only
      rw [atI_nat (v := .int c[k]) (by rw [List.getElem?_map, List.getElem?_eq_getElem hk]; rfl)]
    generalize hx : (if c[k] < 0 then -c[k] else c[k]) = x
    have hx0 : 0 ≤ x := by rw [← hx]; split <;> omega
    by_cases hs : x < 1000000000000000000
    · refine ⟨x % m, k + 1, 0, s, ?_, ⟨hl, by omega, by omega, s0, s1⟩, (vmod x).1, (vmod x).2⟩
      simp [mSeq, mIf, mAnd, mTest, mOp, mVar, mC, mCall, aCons, aNil, mSetIx, mSet, mRet, mEnd, i2, i1, i3, i0, ln, ic, setIx_d2, setIx_d1, setIx_d3, oInt, hcm, hpow, hp, hx, hs, gc_d]
    · have hx1 : 0 < x := by omega
      refine ⟨x % m, k + 1, x / m, s, ?_, ⟨hl, by omega, Int.ediv_nonneg hx0 (by omega), s0, s1⟩, (vmod x).1, (vmod x).2⟩
      simp [mSeq, mIf, mAnd, mTest, mOp, mVar, mC, mCall, aCons, aNil, mSetIx, mSet, mRet, mEnd, i2, i1, i3, i0, ln, ic, setIx_d2, setIx_d1, setIx_d3, oInt, hcm, hcd, hpow, hp, hx, hs, hx1, gc_d]
  · by_cases hr : 0 < r
    · refine ⟨r % m, p, r / m, s, ?_, ⟨hl, p0, Int.ediv_nonneg r0 (by omega), s0, s1⟩, (vmod r).1, (vmod r).2⟩
      have hr' : ¬ r = 0 := by omega
      simp [mSeq, mIf, mAnd, mTest, mOp, mVar, mC, mCall, aCons, aNil, mSetIx, mSet, mRet, mEnd, i2, i1, i3, i0, ln, setIx_d2, setIx_d1, setIx_d3, oInt, hcm, hcd, hr, hr', gc_d]
    · have hr' : r = 0 := by omega
      subst hr'
      have hp : ¬ p < c.length := fun z => hc ⟨rfl, z⟩
      refine ⟨(s * 48271 + 11) % 2147483647 / 3 % m, p, 0, (s * 48271 + 11) % 2147483647, ?_, ⟨hl, p0, by omega, by omega, by omega⟩, (vmod _).1, (vmod _).2⟩
      simp [mSeq, mIf, mAnd, mTest, mOp, mVar, mC, mCall, aCons, aNil, mSetIx, mSet, mRet, mEnd, i2, i1, i3, i0, ln, setIx_d2, setIx_d1, setIx_d3, oInt, hcm, hcd3, hmul, hmod, hp, gc_d]

/-- a for loop over plain items, by what holds between the turns -/
theorem forL_ind {t : Tg} {body : MS} {xs : List IV} (R : Nat → Slots → Store → Prop) {sl : Slots} {st : Store} (h0 : R 0 sl st)
    (step : ∀ i x sl st, xs[i]? = some x → R i sl st → ∃ sl1, t.store x sl = some sl1 ∧ ∃ sl2 st2, (body sl1 st = .next sl2 st2 ∨ body sl1 st = .cont sl2 st2) ∧ R (i + 1) sl2 st2) :
    ∃ sl' st', forL (fun _ => true) t body xs sl st = .next sl' st' ∧ R xs.length sl' st' := by
  suffices h : ∀ (ys : List IV) (i : Nat) (sl : Slots) (st : Store), xs.drop i = ys → i ≤ xs.length → R i sl st → ∃ sl' st', forL (fun _ => true) t body ys sl st = .next sl' st' ∧ R xs.length sl' st' from h xs 0 sl st rfl (Nat.zero_le _) h0
  intro ys
  induction ys with
  | nil =>
    intro i sl st hd hi r
    have : i = xs.length := by
      have := List.drop_eq_nil_iff.mp hd
      omega
    subst this
    exact ⟨sl, st, rfl, r⟩
  | cons y ys ih =>
    intro i sl st hd hi r
    have hl : i < xs.length := by
      rcases Nat.lt_or_ge i xs.length with h | h
      · exact h
      · rw [List.drop_eq_nil_iff.mpr h] at hd; cases hd
    have hy : xs[i]? = some y := by
      rw [List.drop_eq_getElem_cons hl] at hd
      rw [List.getElem?_eq_getElem hl]
      exact congrArg some (List.cons.inj hd).1
    have hd2 : xs.drop (i + 1) = ys := by
      rw [List.drop_eq_getElem_cons hl] at hd
      exact (List.cons.inj hd).2
    obtain ⟨sl1, e1, sl2, st2, e2, r2⟩ := step i y sl st hy r
    obtain ⟨sl', st', e3, r3⟩ := ih (i + 1) sl2 st2 hd2 hl r2
    refine ⟨sl', st', ?_, r3⟩
    rw [forL, if_pos rfl, e1]
    rcases e2 with e2 | e2 <;> (simp only [e2]; exact e3)

def b_begin : MS := mSeq (mSet 1 (mC (.int 1))) (mSeq (mFor (iVal (mVar 0)) (.one 2) (mSeq (mSet 1 (mOp oMod (mOp oAdd (mOp oAdd (mOp oMul (mVar 1) (mC (.int 69621))) (mOp oMod (mCall oIntC (aCons (mVar 2) (aNil))) (mC (.int 2147483629)))) (mC (.int 7))) (mC (.int 2147483647)))) (mEnd))) (mSeq (mRet (mLst (aCons (mCall oList (aCons (mVar 0) (aNil))) (aCons (mC (.int 0)) (aCons (mC (.int 0)) (aCons (mVar 1) (aNil))))))) (mEnd)))
def F_begin : FN := defF 2 b_begin
theorem begin_ok (ns : List Int) (h : ns.length ≤ 63) : ∃ s, F_begin [.ro (ns.map .int)] [] = .ok (.loc 1) (dSt ns 0 0 s) ∧ dOk ns 0 0 s := by
  unfold F_begin defF b_begin
  have hmul : ∀ x, cMul x 69621 = true := fun x => by unfold cMul cSmall; simp
  have hmod : ∀ x, cMod x 2147483647 = true := fun x => by unfold cMod; decide
  have hmod2 : ∀ x, cMod x 2147483629 = true := fun x => by unfold cMod; decide
  have loop := forL_ind (t := .one 2) (xs := ns.map .int) (body := mSeq (mSet 1 (mOp oMod (mOp oAdd (mOp oAdd (mOp oMul (mVar 1) (mC (.int 69621))) (mOp oMod (mCall oIntC (aCons (mVar 2) (aNil))) (mC (.int 2147483629)))) (mC (.int 7))) (mC (.int 2147483647)))) (mEnd))
    (fun _ sl st => ∃ s y, sl = [some (.ro (ns.map .int)), some (.int s), y] ∧ st = [] ∧ 0 ≤ s ∧ s < 2147483647) (sl := [some (.ro (ns.map .int)), some (.int 1), none]) (st := []) ⟨1, none, rfl, rfl, by decide, by decide⟩ ?_
  · obtain ⟨sl', st', e, s, y, rfl, rfl, s0, s1⟩ := loop
    refine ⟨s, ?_, ⟨h, by decide, by decide, s0, s1⟩⟩
    have hch : (Walk.fix (ns.map IV.int)).chk = fun _ => true := rfl
    simp [mSeq, mSet, mC, mFor, iVal, mVar, walkV, hch, e, mRet, mLst, aCons, aNil, mCall, oList, seqOf, gcV_loc, tooLong, dSt]
  · rintro i x sl st hx ⟨s, y, rfl, rfl, s0, s1⟩
    rw [List.getElem?_map] at hx
    cases hn : ns[i]? with
    | none => rw [hn] at hx; cases hx
    | some n =>
      rw [hn] at hx
      cases hx
      refine ⟨_, rfl, [some (.ro (ns.map .int)), some (.int ((s * 69621 + n % 2147483629 + 7) % 2147483647)), some (.int n)], [], .inl ?_, (s * 69621 + n % 2147483629 + 7) % 2147483647, some (.int n), rfl, rfl, by omega, by omega⟩
      simp [mSeq, mSet, mOp, mVar, mC, mCall, aCons, aNil, oInt, hmul, hmod, hmod2, mEnd]

/-! ### comprehensions by what holds between the turns -/
theorem lcL_ind {t : Tg} {test : MT} {elt : ME} {d : Nat} {sl0 : Slots} {xs : List IV} (R : Nat → Store → List IV → Prop) {base : Store} (hd : d = base.length) (h0 : R 0 base [])
    (step : ∀ i x base acc, xs[i]? = some x → d = base.length → R i base acc → ∃ sl1, t.store x sl0 = some sl1 ∧ ∃ b base1, test sl1 (base ++ [.lst acc]) = .ok b (base1 ++ [.lst acc]) ∧ d = base1.length ∧ (b = false → R (i + 1) base1 acc) ∧
      (b = true → acc.length < 16777216 ∧ ∃ y base2, elt sl1 (base1 ++ [.lst acc]) = .ok y (base2 ++ [.lst acc]) ∧ d = base2.length ∧ R (i + 1) base2 (acc ++ [y]))) :
    ∃ base' acc', lcL (fun _ => true) t test elt d sl0 xs (base ++ [.lst []]) = .ok (.loc d) (base' ++ [.lst acc']) ∧ d = base'.length ∧ R xs.length base' acc' := by
  suffices h : ∀ (ys : List IV) (i : Nat) (base : Store) (acc : List IV), xs.drop i = ys → i ≤ xs.length → d = base.length → R i base acc → ∃ base' acc', lcL (fun _ => true) t test elt d sl0 ys (base ++ [.lst acc]) = .ok (.loc d) (base' ++ [.lst acc']) ∧ d = base'.length ∧ R xs.length base' acc' from h xs 0 base [] rfl (Nat.zero_le _) hd h0
  intro ys
  induction ys with
  | nil =>
    intro i base acc hdr hi hb r
    have : i = xs.length := by
      have := List.drop_eq_nil_iff.mp hdr
      omega
    subst this
    exact ⟨base, acc, rfl, hb, r⟩
  | cons y ys ih =>
    intro i base acc hdr hi hb r
    have hl : i < xs.length := by
      rcases Nat.lt_or_ge i xs.length with h | h
      · exact h
      · rw [List.drop_eq_nil_iff.mpr h] at hdr; cases hdr
    have hy : xs[i]? = some y := by
      rw [List.drop_eq_getElem_cons hl] at hdr
      rw [List.getElem?_eq_getElem hl]
      exact congrArg some (List.cons.inj hdr).1
    have hd2 : xs.drop (i + 1) = ys := by
      rw [List.drop_eq_getElem_cons hl] at hdr
      exact (List.cons.inj hdr).2
    obtain ⟨sl1, e1, b, base1, e2, hb1, hf, ht⟩ := step i y base acc hy hb r
    cases b with
    | false =>
      obtain ⟨base', acc', e3, h3, r3⟩ := ih (i + 1) base1 acc hd2 hl hb1 (hf rfl)
      refine ⟨base', acc', ?_, h3, r3⟩
      rw [lcL, if_pos rfl, e1]
      simp only [e2]
      exact e3
    | true =>
      obtain ⟨hacc, v, base2, e3, hb2, r2⟩ := ht rfl
      obtain ⟨base', acc', e4, h4, r4⟩ := ih (i + 1) base2 (acc ++ [v]) hd2 hl hb2 r2
      refine ⟨base', acc', ?_, h4, r4⟩
      rw [lcL, if_pos rfl, e1]
      simp only [e2, e3]
      rw [hb2, List.getElem?_concat_length]
      simp only [hacc, if_true]
      rw [List.set_append_right _ _ (Nat.le_refl _), Nat.sub_self]
      show lcL _ _ _ _ base2.length _ _ (base2 ++ [.lst (acc ++ [v])]) = _
      rw [← hb2]
      exact e4
/-- .. where nothing but the new list changes -/
theorem lcL_pure {t : Tg} {test : MT} {elt : ME} {sl0 : Slots} {xs : List IV} {base : Store} (p : IV → Bool) (f : IV → IV) (hlen : xs.length ≤ 16777216)
    (step : ∀ x acc, x ∈ xs → ∃ sl1, t.store x sl0 = some sl1 ∧ test sl1 (base ++ [.lst acc]) = .ok (p x) (base ++ [.lst acc]) ∧ (p x = true → elt sl1 (base ++ [.lst acc]) = .ok (f x) (base ++ [.lst acc]))) :
    lcL (fun _ => true) t test elt base.length sl0 xs (base ++ [.lst []]) = .ok (.loc base.length) (base ++ [.lst ((xs.filter p).map f)]) := by
  obtain ⟨base', acc', e, _, hb, ha⟩ := lcL_ind (t := t) (test := test) (elt := elt) (sl0 := sl0) (xs := xs) (d := base.length) (fun i b acc => b = base ∧ acc = ((xs.take i).filter p).map f) rfl ⟨rfl, rfl⟩ (fun i x b acc hx _ r => by
    obtain ⟨rfl, rfl⟩ := r
    obtain ⟨sl1, e1, e2, e3⟩ := step x (((xs.take i).filter p).map f) (List.mem_of_getElem? hx)
    have hl := (List.getElem?_eq_some_iff.mp hx).1
    have ht : xs.take (i + 1) = xs.take i ++ [x] := by rw [List.take_add_one, hx]; rfl
    refine ⟨sl1, e1, p x, b, e2, rfl, fun hp => ⟨rfl, ?_⟩, fun hp => ⟨?_, f x, b, e3 hp, rfl, rfl, ?_⟩⟩
    · rw [ht, List.filter_append, List.filter_cons, hp]; simp
    · rw [List.length_map]
      exact Nat.lt_of_le_of_lt (List.length_filter_le _ _) (by rw [List.length_take]; omega)
    · rw [ht, List.filter_append, List.filter_cons, hp]; simp)
  rw [e, hb, ha, List.take_length]
theorem gcV_ne {v : IV} {st st' : Store} (h : st'.take st.length ≠ st) : gcV st (.ok v st') = .ok v st' := by
  simp [gcV, h]
/-- a list that was laid last is read through -/
theorem seqOf_last (st : Store) (xs : List IV) : seqOf (st ++ [.lst xs]) (.loc st.length) = some xs := by
  simp [seqOf]
theorem lstOf_last (st : Store) (xs : List IV) : lstOf (st ++ [.lst xs]) (.loc st.length) = some xs := by
  simp [lstOf]
theorem steps_length (lo c : Int) (n : Nat) : (steps lo c n).length = n := by simp [steps]
theorem steps_some {lo c : Int} {n i : Nat} (h : i < n) : (steps lo c n)[i]? = some (.int (lo + (i : Nat) * c)) := by
  unfold steps
  rw [List.getElem?_map, List.getElem?_range h]
  rfl

/-! ### slices by natural bounds -/
theorem cutI_nat {α : Type} (xs : List α) (a b : Nat) : cutI xs (some (a : Int)) (some (b : Int)) = (xs.drop a).take (b - a) := by
  unfold cutI
  rw [HT.sIx_nat, HT.sIx_nat]
  by_cases h : a ≤ xs.length
  · rw [Nat.min_eq_left h]
    by_cases hb : b ≤ xs.length
    · rw [Nat.min_eq_left hb]
    · rw [Nat.min_eq_right (by omega)]
      rw [List.take_of_length_le (l := xs.drop a) (by rw [List.length_drop]; exact Nat.le_refl _), List.take_of_length_le (by rw [List.length_drop]; omega)]
  · rw [Nat.min_eq_right (by omega : xs.length ≤ a), List.drop_of_length_le (Nat.le_refl _), List.drop_of_length_le (by omega : xs.length ≤ a)]
    simp
theorem cutI_from {α : Type} (xs : List α) (a : Nat) : cutI xs (some (a : Int)) none = xs.drop a := by
  unfold cutI
  rw [HT.sIx_nat, HT.sIx_none]
  by_cases h : a ≤ xs.length
  · rw [Nat.min_eq_left h, List.take_of_length_le (by rw [List.length_drop]; exact Nat.le_refl _)]
  · rw [Nat.min_eq_right (by omega), List.drop_of_length_le (Nat.le_refl _), List.drop_of_length_le (by omega : xs.length ≤ a)]
    simp
theorem cutI_to {α : Type} (xs : List α) (b : Nat) : cutI xs none (some (b : Int)) = xs.take b := by
  unfold cutI
  rw [HT.sIx_none, HT.sIx_nat, List.drop_zero, Nat.sub_zero]
  by_cases h : b ≤ xs.length
  · rw [Nat.min_eq_left h]
  · rw [Nat.min_eq_right (by omega), List.take_of_length_le (Nat.le_refl _), List.take_of_length_le (by omega)]
@[simp] theorem cutI_mapf {α β : Type} (f : α → β) (xs : List α) (lo hi : Option Int) : cutI (xs.map f) lo hi = (cutI xs lo hi).map f := by
  unfold cutI
  rw [List.length_map, List.map_take, List.map_drop]
theorem oLen_of {a : IV} {st : Store} {xs : List IV} (hs : ∀ s, a ≠ .str s) (h : seqOf st a = some xs) : oLen [a] st = .ok (.int xs.length) st := by
  unfold oLen
  split
  · rename_i s e
    cases e
    exact absurd rfl (hs _)
  · rename_i b _ e
    cases e
    rw [h]
  · rename_i h1 h2
    exact absurd rfl (h2 a)
@[simp] theorem oLen_str (s : List Nat) (st : Store) : oLen [.str s] st = if short s.length = true then .ok (.int s.length) st else .bad := rfl
@[simp] theorem oLen_tup (xs : List IV) (st : Store) : oLen [.tup xs] st = .ok (.int xs.length) st := rfl
@[simp] theorem oLen_ro (xs : List IV) (st : Store) : oLen [.ro xs] st = .ok (.int xs.length) st := rfl
theorem oLen_lst {n : Nat} {st : Store} {xs : List IV} (h : st[n]? = some (.lst xs)) : oLen [.loc n] st = .ok (.int xs.length) st := oLen_of (fun _ z => nomatch z) (by simp [seqOf, h])
@[simp] theorem oSum_tup (is : List Int) (st : Store) : oSum [.tup (is.map .int)] st = .ok (.int is.sum) st := by simp [oSum, seqOf]
theorem oSum_lst {n : Nat} {st : Store} {is : List Int} (h : st[n]? = some (.lst (is.map .int))) : oSum [.loc n] st = .ok (.int is.sum) st := by simp [oSum, seqOf, h]
theorem mFld_of {c f n : Nat} {m : ME} {sl : Slots} {st st1 : Store} {fs : List (Nat × IV)} {v : IV} (h : m sl st = .ok (.loc n) st1) (hn : st1[n]? = some (.ins c fs)) (hf : fs.lookup f = some v) : mFld c f m sl st = .ok v st1 := by
  simp [mFld, h, fieldV, hn, hf]
theorem isIns_of {c n : Nat} {st : Store} {fs : List (Nat × IV)} (hn : st[n]? = some (.ins c fs)) : isIns c (.loc n) st = true := by simp [isIns, hn]
theorem setFld_of {c f n : Nat} {v : IV} {st : Store} {fs : List (Nat × IV)} (h : st[n]? = some (.ins c fs)) (hl : fs.length ≤ 20) : setFld c f (.loc n) v st = some (st.set n (.ins c (putN f v fs))) := by
  unfold setFld
  simp only [h]
  rw [if_pos ⟨True.intro, by omega⟩]
theorem tooLong_no {n : Nat} (h : n ≤ 100000) : tooLong n = false := by
  unfold tooLong
  rw [decide_eq_true (by omega)]
  rfl
theorem short_yes {n : Nat} (h : n ≤ 100000) : short n = true := by
  unfold short
  exact decide_eq_true (by omega)
theorem inLine_small {i : Int} (h : -100000000 ≤ i) (h2 : i ≤ 100000000) : inLine i = true := inLine_iff.mpr ⟨by omega, by omega⟩
theorem iRange3_of {a : MA} {sl : Slots} {st st1 : Store} {i j c : Int} (h : a sl st = .ok [.int i, .int j, .int c] st1) (hi : inLine i = true) (hj : inLine j = true) (hc : c = -1 ∨ c = 8 ∨ c = 16) : iRange3 a sl st = .ok (.fix (steps i c (turns i j c))) st1 := by
  unfold iRange3
  rw [h]
  show (if _ then _ else _ : Res Walk) = _
  rw [if_pos ⟨hi, hj, hc⟩]
theorem iRange2_of {a : MA} {sl : Slots} {st st1 : Store} {i j : Int} (h : a sl st = .ok [.int i, .int j] st1) (hi : inLine i = true) (hj : inLine j = true) : iRange2 a sl st = .ok (.fix (steps i 1 (j - i).toNat)) st1 := by
  unfold iRange2
  rw [h]
  show (if _ then _ else _ : Res Walk) = _
  rw [if_pos ⟨hi, hj⟩]
theorem iRange_of {a : MA} {sl : Slots} {st st1 : Store} {j : Int} (h : a sl st = .ok [.int j] st1) (hj : inLine j = true) : iRange a sl st = .ok (.fix (steps 0 1 j.toNat)) st1 := by
  unfold iRange
  rw [h]
  show (if _ then _ else _ : Res Walk) = _
  rw [if_pos hj]
theorem mFor_fix {mi : MI} {t : Tg} {body : MS} {sl : Slots} {st st1 : Store} {xs : List IV} (h : mi sl st = .ok (.fix xs) st1) : mFor mi t body sl st = forL (fun _ => true) t body xs sl st1 := by
  unfold mFor
  rw [h]
  rfl
theorem mLc_fix {mi : MI} {t : Tg} {own : List Nat} {test : MT} {elt : ME} {sl : Slots} {st st1 : Store} {xs : List IV} (ho : (t.ixs.all fun i => own.contains i) = true) (h : mi sl st = .ok (.fix xs) st1) :
    mLc mi t own test elt sl st = lcL (fun _ => true) t test elt st1.length (wipeS sl own) xs (st1 ++ [.lst []]) := by
  unfold mLc
  rw [if_pos ho, h]
  rfl
end Mi

set_option Elab.async false
set_option linter.all false
set_option maxRecDepth 100000
set_option maxHeartbeats 4000000
namespace Mi
/-! ## Mi10: loops that may be left -/
def Out.leaves : Out → Bool
  | .ret _ _ => true
  | .exc _ _ _ => true
  | _ => false
theorem forL_exit {t : Tg} {body : MS} {xs : List IV} (R : Nat → Slots → Store → Prop) (Q : Nat → Out → Prop) {sl : Slots} {st : Store} (h0 : R 0 sl st)
    (step : ∀ i x sl st, xs[i]? = some x → R i sl st → ∃ sl1, t.store x sl = some sl1 ∧ ((∃ sl2 st2, (body sl1 st = .next sl2 st2 ∨ body sl1 st = .cont sl2 st2) ∧ R (i + 1) sl2 st2) ∨ (∃ o, body sl1 st = o ∧ o.leaves = true ∧ Q i o))) :
    (∃ sl' st', forL (fun _ => true) t body xs sl st = .next sl' st' ∧ R xs.length sl' st') ∨ (∃ i, i < xs.length ∧ Q i (forL (fun _ => true) t body xs sl st)) := by
  suffices h : ∀ (ys : List IV) (i : Nat) (sl : Slots) (st : Store), xs.drop i = ys → i ≤ xs.length → R i sl st → (∃ sl' st', forL (fun _ => true) t body ys sl st = .next sl' st' ∧ R xs.length sl' st') ∨ (∃ i, i < xs.length ∧ Q i (forL (fun _ => true) t body ys sl st)) from h xs 0 sl st rfl (Nat.zero_le _) h0
  intro ys
  induction ys with
  | nil =>
    intro i sl st hd hi r
    have : i = xs.length := by
      have := List.drop_eq_nil_iff.mp hd
      omega
    subst this
    exact .inl ⟨sl, st, rfl, r⟩
  | cons y ys ih =>
    intro i sl st hd hi r
    have hl : i < xs.length := by
      rcases Nat.lt_or_ge i xs.length with h | h
      · exact h
      · rw [List.drop_eq_nil_iff.mpr h] at hd; cases hd
    have hy : xs[i]? = some y := by
      rw [List.drop_eq_getElem_cons hl] at hd
      rw [List.getElem?_eq_getElem hl]
      exact congrArg some (List.cons.inj hd).1
    have hd2 : xs.drop (i + 1) = ys := by
      rw [List.drop_eq_getElem_cons hl] at hd
      exact (List.cons.inj hd).2
    obtain ⟨sl1, e1, h⟩ := step i y sl st hy r
    rw [forL, if_pos rfl, e1]
    rcases h with ⟨sl2, st2, e2, r2⟩ | ⟨o, e2, le, q⟩
    · have := ih (i + 1) sl2 st2 hd2 hl r2
      rcases e2 with e2 | e2 <;> (simp only [e2]; exact this)
    · refine .inr ⟨i, hl, ?_⟩
      simp only [e2]
      cases o <;> first | exact q | cases le
@[simp] theorem cAny_s (i j : Int) : cAny i j = true := rfl
theorem cDiv_yes {i j : Int} (h : decide (0 < j) && decide (j < 1073741824)) : cDiv i j = true := h
theorem cMul_r {i j : Int} (h : cSmall j = true) : cMul i j = true := by
  unfold cMul
  rw [h, Bool.or_true]
theorem cMul_l {i j : Int} (h : cSmall i = true) : cMul i j = true := by
  unfold cMul
  rw [h, Bool.true_or]
@[simp] theorem cMod_s (i j : Int) : cMod i j = decide (0 < j) := rfl
theorem iVal_tup {m : ME} {sl : Slots} {st st1 : Store} {xs : List IV} (h : m sl st = .ok (.tup xs) st1) : iVal m sl st = .ok (.fix xs) st1 := by
  unfold iVal
  rw [h]
  rfl
theorem ok_ok_andThen {α β : Type} (v : α) (st : Store) (f : α → Store → Res β) : (Res.ok v st).andThen f = f v st := rfl
theorem exc_andThen {α β : Type} (c : Nat) (st : Store) (f : α → Store → Res β) : (Res.exc c st).andThen f = .exc c st := rfl
@[simp] theorem u_mVar (i : Nat) (sl : Slots) (st : Store) : mVar i sl st = (match sl[i]? with
  | some (some v) => .ok v st
  | _ => .bad) := id rfl
@[simp] theorem u_mC (v : IV) (sl_ : Slots) (st : Store) : mC v sl_ st = (.ok v st) := id rfl
@[simp] theorem u_mOp (o : O2) (a b : ME) (sl : Slots) (st : Store) : mOp o a b sl st = (gcV st ((a sl st).andThen fun x st1 => (b sl st1).andThen fun y st2 => calmR (o x y st2))) := id rfl
@[simp] theorem u_mUn (o : IV → Store → Res IV) (a : ME) (sl : Slots) (st : Store) : mUn o a sl st = (gcV st ((a sl st).andThen fun x st1 => calmR (o x st1))) := id rfl
@[simp] theorem u_mTup (a : MA) (sl : Slots) (st : Store) : mTup a sl st = ((a sl st).andThen fun xs st1 => if tooLong xs.length then .bad else .ok (.tup xs) st1) := id rfl
@[simp] theorem u_mLst (a : MA) (sl : Slots) (st : Store) : mLst a sl st = ((a sl st).andThen fun xs st1 => if tooLong xs.length then .bad else .ok (.loc st1.length) (st1 ++ [.lst xs])) := id rfl
@[simp] theorem u_mCall (o : OC) (a : MA) (sl : Slots) (st : Store) : mCall o a sl st = (gcV st ((a sl st).andThen fun xs st1 => calmR (o xs st1))) := id rfl
@[simp] theorem u_aNil (sl_ : Slots) (st : Store) : aNil  sl_ st = (.ok [] st) := id rfl
@[simp] theorem u_aCons (m : ME) (r : MA) (sl : Slots) (st : Store) : aCons m r sl st = ((m sl st).andThen fun x st1 => (r sl st1).andThen fun xs st2 => .ok (x :: xs) st2) := id rfl
@[simp] theorem u_mTest (m : ME) (sl : Slots) (st : Store) : mTest m sl st = (gcB st ((m sl st).andThen fun x st1 => match x with
  | .bl b => .ok b st1
  | _ => .bad)) := id rfl
@[simp] theorem u_mAnd (a b : MT) (sl : Slots) (st : Store) : mAnd a b sl st = ((a sl st).andThen fun c st1 => if c = true then b sl st1 else .ok false st1) := id rfl
@[simp] theorem u_mOr (a b : MT) (sl : Slots) (st : Store) : mOr a b sl st = ((a sl st).andThen fun c st1 => if c = true then .ok true st1 else b sl st1) := id rfl
@[simp] theorem u_mNot (a : MT) (sl : Slots) (st : Store) : mNot a sl st = ((a sl st).andThen fun c st1 => .ok (!c) st1) := id rfl
@[simp] theorem u_mIfE (c : MT) (a b : ME) (sl : Slots) (st : Store) : mIfE c a b sl st = ((c sl st).andThen fun d st1 => if d = true then a sl st1 else b sl st1) := id rfl
@[simp] theorem u_mVal (c : MT) (sl : Slots) (st : Store) : mVal c sl st = ((c sl st).andThen fun d st1 => .ok (.bl d) st1) := id rfl
@[simp] theorem u_mChain (o o' : O2) (a b c : ME) (sl : Slots) (st : Store) : mChain o o' a b c sl st = (gcB st ((a sl st).andThen fun x st1 => (b sl st1).andThen fun y st2 => (calmR (o x y st2)).andThen fun z st3 => match z with
  | .bl true => (c sl st3).andThen fun w st4 => (calmR (o' y w st4)).andThen fun u st5 => match u with
    | .bl d => .ok d st5
    | _ => .bad
  | .bl false => .ok false st3
  | _ => .bad)) := id rfl
@[simp] theorem u_mSeq (a b : MS) (sl : Slots) (st : Store) : mSeq a b sl st = ((a sl st).andThen b) := id rfl
@[simp] theorem u_mSet (i : Nat) (m : ME) (sl : Slots) (st : Store) : mSet i m sl st = ((m sl st).out sl fun v st1 => .next (sl.set i (some v)) st1) := id rfl
@[simp] theorem u_mDrop (m : ME) (sl : Slots) (st : Store) : mDrop m sl st = ((m sl st).out sl fun _ st1 => .next sl st1) := id rfl
@[simp] theorem u_mRet (m : ME) (sl : Slots) (st : Store) : mRet m sl st = ((m sl st).out sl fun v st1 => .ret v st1) := id rfl
@[simp] theorem u_mRetN (sl_ : Slots) (st : Store) : mRetN  sl_ st = (.ret .non st) := id rfl
@[simp] theorem u_mIf (c : MT) (a b : MS) (sl : Slots) (st : Store) : mIf c a b sl st = ((c sl st).out sl fun d st1 => if d = true then a sl st1 else b sl st1) := id rfl
@[simp] theorem u_mEnd (sl : Slots) (st : Store) : mEnd  sl st = (.next sl st) := id rfl
@[simp] theorem u_mBrk (sl : Slots) (st : Store) : mBrk  sl st = (.brk sl st) := id rfl
@[simp] theorem u_mCont (sl : Slots) (st : Store) : mCont  sl st = (.cont sl st) := id rfl
@[simp] theorem u_mAsg (t : Tg) (m : ME) (sl : Slots) (st : Store) : mAsg t m sl st = ((m sl st).out sl fun v st1 => match t.store v sl with
  | some sl1 => .next sl1 st1
  | none => .bad) := id rfl
@[simp] theorem u_mNoPart (sl_ : Slots) (st : Store) : mNoPart  sl_ st = (.ok none st) := id rfl
@[simp] theorem u_mPart (m : ME) (sl : Slots) (st : Store) : mPart m sl st = ((m sl st).andThen fun v st1 => match v with
  | .int i => .ok (some i) st1
  | _ => .bad) := id rfl
@[simp] theorem u_mSl (m : ME) (l u : MO) (sl : Slots) (st : Store) : mSl m l u sl st = (gcV st ((m sl st).andThen fun a st1 => (l sl st1).andThen fun lo st2 => (u sl st2).andThen fun hi st3 => oSl a lo hi st3)) := id rfl
@[simp] theorem u_mSetIx (f : IV → IV → IV → Store → Option Store) (mo mi mv : ME) (sl : Slots) (st : Store) : mSetIx f mo mi mv sl st = ((mv sl st).out sl fun v st1 => (mo sl st1).out sl fun o st2 => (mi sl st2).out sl fun i st3 => match f o i v st3 with
  | some st4 => .next sl st4
  | none => .bad) := id rfl
@[simp] theorem u_mDef (n : Nat) (F : FN) (a : MA) (sl : Slots) (st : Store) : mDef n F a sl st = (gcV st ((a sl st).andThen (arity n F))) := id rfl
@[simp] theorem u_mMeth (c n : Nat) (F : FN) (mo : ME) (a : MA) (sl : Slots) (st : Store) : mMeth c n F mo a sl st = (gcV st ((mo sl st).andThen fun v st1 => if isIns c v st1 = true then (a sl st1).andThen fun xs st2 => arity n F (v :: xs) st2 else .bad)) := id rfl
@[simp] theorem u_mMt (ty : IV → Store → Bool) (o : OM) (mo : ME) (a : MA) (sl : Slots) (st : Store) : mMt ty o mo a sl st = (gcV st ((mo sl st).andThen fun v st1 => if ty v st1 = true then (a sl st1).andThen fun xs st2 => calmR (o v xs st2) else .bad)) := id rfl
@[simp] theorem u_mYes (sl_ : Slots) (st : Store) : mYes  sl_ st = (.ok true st) := id rfl
@[simp] theorem u_mRaise (c : Nat) (sl : Slots) (st : Store) : mRaise c sl st = (.exc c sl st) := id rfl
@[simp] theorem u_mAlt (a b : ME) (sl : Slots) (st : Store) : mAlt a b sl st = (match a sl st with
  | .bad => b sl st
  | r => r) := id rfl

end Mi

set_option Elab.async false
set_option linter.all false
set_option maxRecDepth 100000
set_option maxHeartbeats 4000000
namespace Mi
/-! ## Mi11: machines from behind -/
section
variable {P : Out → Prop} {rest body a b : MS} {sl : Slots} {st st1 : Store} {m : ME} {v : IV} {i : Nat} {c : MT} {t : Tg} {xs : List IV} {mi : MI}
theorem q_set (h : m sl st = .ok v st1) (k : P (rest (sl.set i (some v)) st1)) : P (mSeq (mSet i m) rest sl st) := by
  show P (((m sl st).out sl _).andThen rest)
  rw [h]
  exact k
theorem q_drop (h : m sl st = .ok v st1) (k : P (rest sl st1)) : P (mSeq (mDrop m) rest sl st) := by
  show P (((m sl st).out sl _).andThen rest)
  rw [h]
  exact k
theorem q_no (h : c sl st = .ok false st1) (k : P (rest sl st1)) : P (mSeq (mIf c a mEnd) rest sl st) := by
  show P (((c sl st).out sl _).andThen rest)
  rw [h]
  exact k
theorem q_if {d : Bool} (h : c sl st = .ok d st1) (k : P (mSeq (if d = true then a else b) rest sl st1)) : P (mSeq (mIf c a b) rest sl st) := by
  show P (((c sl st).out sl _).andThen rest)
  rw [h]
  cases d <;> exact k
theorem q_ret (h : m sl st = .ok v st1) (k : P (.ret v st1)) : P (mSeq (mRet m) rest sl st) := by
  show P (((m sl st).out sl _).andThen rest)
  rw [h]
  exact k
theorem q_for (R : Nat → Slots → Store → Prop) (hi : mi sl st = .ok (.fix xs) st1) (h0 : R 0 sl st1)
    (step : ∀ i x sl st, xs[i]? = some x → R i sl st → ∃ sl1, t.store x sl = some sl1 ∧ ∃ sl2 st2, (body sl1 st = .next sl2 st2 ∨ body sl1 st = .cont sl2 st2) ∧ R (i + 1) sl2 st2)
    (k : ∀ sl2 st2, R xs.length sl2 st2 → P (rest sl2 st2)) : P (mSeq (mFor mi t body) rest sl st) := by
  obtain ⟨sl', st', e, r⟩ := forL_ind R h0 step
  show P ((mFor mi t body sl st).andThen rest)
  rw [mFor_fix hi, e]
  exact k _ _ r
end
theorem lcL_still {chk : Store → Bool} {t : Tg} {test : MT} {elt : ME} {sl0 : Slots} {xs : List IV} {base : Store} (p : IV → Bool) (f : IV → IV) (hlen : xs.length ≤ 16777216) (hc : ∀ acc, chk (base ++ [.lst acc]) = true)
    (step : ∀ x acc, x ∈ xs → ∃ sl1, t.store x sl0 = some sl1 ∧ test sl1 (base ++ [.lst acc]) = .ok (p x) (base ++ [.lst acc]) ∧ (p x = true → elt sl1 (base ++ [.lst acc]) = .ok (f x) (base ++ [.lst acc]))) :
    lcL chk t test elt base.length sl0 xs (base ++ [.lst []]) = .ok (.loc base.length) (base ++ [.lst ((xs.filter p).map f)]) := by
  suffices h : ∀ (ys : List IV) (acc : List IV), acc.length + ys.length ≤ 16777216 → (∀ x ∈ ys, x ∈ xs) → lcL chk t test elt base.length sl0 ys (base ++ [.lst acc]) = .ok (.loc base.length) (base ++ [.lst (acc ++ (ys.filter p).map f)]) by
    have := h xs [] (by simpa using hlen) (fun _ h => h)
    simpa using this
  intro ys
  induction ys with
  | nil =>
    intro acc _ _
    rw [lcL, if_pos (hc acc)]
    simp
  | cons y ys ih =>
    intro acc hl hm
    obtain ⟨sl1, e1, e2, e3⟩ := step y acc (hm y (List.mem_cons_self ..))
    simp only [List.length_cons] at hl
    rw [lcL, if_pos (hc acc), e1]
    simp only [e2]
    cases hp : p y with
    | false =>
      rw [List.filter_cons_of_neg (by rw [hp]; decide)]
      exact ih acc (by omega) (fun x h => hm x (List.mem_cons_of_mem _ h))
    | true =>
      simp only [e3 hp]
      rw [List.getElem?_concat_length]
      simp only [show acc.length < 16777216 by omega, if_true]
      rw [List.set_append_right _ _ (Nat.le_refl _), Nat.sub_self]
      have := ih (acc ++ [f y]) (by rw [List.length_append, List.length_singleton]; omega) (fun x h => hm x (List.mem_cons_of_mem _ h))
      rw [List.filter_cons_of_pos hp, List.map_cons]
      simpa using this
theorem iVal_lst {m : ME} {sl : Slots} {st st1 : Store} {n : Nat} {xs : List IV} (h : m sl st = .ok (.loc n) st1) (hn : st1[n]? = some (.lst xs)) : iVal m sl st = .ok (.at n xs) st1 := by
  unfold iVal
  rw [h]
  simp [walkV, hn]
/-- a comprehension over a list that stands, whose parts leave all as it was -/
theorem mLc_list {mi : MI} {t : Tg} {own : List Nat} {test : MT} {elt : ME} {sl : Slots} {st base : Store} {n : Nat} {xs : List IV} (p : IV → Bool) (f : IV → IV) (hlen : xs.length ≤ 16777216) (ho : (t.ixs.all fun i => own.contains i) = true) (h : mi sl st = .ok (.at n xs) base)
    (hn : base[n]? = some (.lst xs))
    (step : ∀ x acc, x ∈ xs → ∃ sl1, t.store x (wipeS sl own) = some sl1 ∧ test sl1 (base ++ [.lst acc]) = .ok (p x) (base ++ [.lst acc]) ∧ (p x = true → elt sl1 (base ++ [.lst acc]) = .ok (f x) (base ++ [.lst acc]))) :
    mLc mi t own test elt sl st = .ok (.loc base.length) (base ++ [.lst ((xs.filter p).map f)]) := by
  unfold mLc
  rw [if_pos ho, h]
  refine lcL_still p f hlen (fun acc => ?_) step
  have l1 := (List.getElem?_eq_some_iff.mp hn).1
  simp [Walk.chk, List.getElem?_append_left l1, hn]
theorem mLc_still {mi : MI} {t : Tg} {own : List Nat} {test : MT} {elt : ME} {sl : Slots} {st base : Store} {xs : List IV} (p : IV → Bool) (f : IV → IV) (hlen : xs.length ≤ 16777216) (ho : (t.ixs.all fun i => own.contains i) = true) (h : mi sl st = .ok (.fix xs) base)
    (step : ∀ x acc, x ∈ xs → ∃ sl1, t.store x (wipeS sl own) = some sl1 ∧ test sl1 (base ++ [.lst acc]) = .ok (p x) (base ++ [.lst acc]) ∧ (p x = true → elt sl1 (base ++ [.lst acc]) = .ok (f x) (base ++ [.lst acc]))) :
    mLc mi t own test elt sl st = .ok (.loc base.length) (base ++ [.lst ((xs.filter p).map f)]) := by
  rw [mLc_fix ho h]
  exact lcL_still p f hlen (fun _ => rfl) step
theorem oTuple_lst {n : Nat} {st : Store} {xs : List IV} (h : st[n]? = some (.lst xs)) : oTuple [.loc n] st = .ok (.tup xs) st := by simp [oTuple, seqOf, h]
theorem defF_true {nl : Nat} {m : MS} {as : List IV} (h : ∃ st, m (as.map some ++ List.replicate nl none) [] = .ret (.bl true) st) : ∃ st, defF nl m as [] = .ok (.bl true) st := by
  obtain ⟨st, e⟩ := h
  exact ⟨[], by simp [defF, e, gcV]⟩
theorem draw {F : FN} {c : List Int} {p r s m : Int} {l : Store} {S : Store} {sl : Slots} {a : MA} (hF : F = F_take) (d : dOk c p r s) (hS : S = dSt c p r s ++ l) (h0 : 0 < m) (h1 : m < 1073741824) (ha : a sl S = .ok [.loc 1, .int m] S) :
    ∃ v p' r' s', mDef 2 F a sl S = .ok (.int v) (dSt c p' r' s' ++ l) ∧ dOk c p' r' s' ∧ 0 ≤ v ∧ v < m := by
  obtain ⟨v, p', r', s', e, d', b1, b2⟩ := take_ok d h0 h1 l
  refine ⟨v, p', r', s', ?_, d', b1, b2⟩
  subst hF hS
  rw [u_mDef, ha, Res.andThen_ok]
  simp only [arity, List.length_cons, List.length_nil, if_true]
  rw [e, gc_d]
theorem mLenOwn_of {c n : Nat} {F : FN} {m : ME} {sl : Slots} {st : Store} {z : Int} (hm : m sl st = .ok (.loc n) st) (hi : isIns c (.loc n) st = true) (hF : F [.loc n] st = .ok (.int z) st) (h0 : 0 ≤ z) (h1 : z < 2 ^ 62) : mLenOwn c F m sl st = .ok (.int z) st := by
  unfold mLenOwn
  rw [hm, Res.andThen_ok, if_pos hi, hF, calmR_ok, Res.andThen_ok]
  show gcV st (if _ then _ else _) = _
  rw [if_pos ⟨h0, h1⟩, gcV_same]
theorem mAlt_r {a b : ME} {sl : Slots} {st : Store} (h : a sl st = .bad) : mAlt a b sl st = b sl st := by
  unfold mAlt
  rw [h]
end Mi

set_option Elab.async false
set_option linter.all false
set_option maxRecDepth 100000
set_option maxHeartbeats 4000000
namespace My
open PySem PySem.Spec L2 Mi
def topS (i : Nat) : Stmt := PySem.Challenge.pw_textshards_k44_ranks_of_bits.main.body.getD i (.Pass ⟨0, 0, 0, 0⟩)
def flds : List Str := ["row", "notes"]
def gOf (K : PySem.W.Frag) (cs es : List Addr) : G := ⟨K, flds, by decide +kernel, cs, es⟩
def catch_RangeError : Nat → Bool := fun i => [false, true].getD i false
abbrev st_Bits_init : Stmt := inClass (topS 5) 0
def b_Bits_init : MS := mSeq (mFldSet 0 0 (mVar 0) (mVar 1)) (mSeq (mFldSet 0 1 (mVar 0) (mLst (aCons (mC (.int 0)) (aNil)))) (mSeq (mFor (iRange3 (aCons (mC (.int 0)) (aCons (mCall oLen (aCons (mVar 1) aNil)) (aCons (mC (.int (8))) (aNil))))) (.one 2) (mSeq (mDrop (mMt isLst oAppend (mFld 0 1 (mVar 0)) (aCons (mOp oAdd (mOp oIx (mFld 0 1 (mVar 0)) (mUn oNeg (mC (.int 1)))) (mCall oSum (aCons (mSl (mVar 1) (mPart (mVar 2)) (mPart (mOp oAdd (mVar 2) (mC (.int (8)))))) (aNil)))) (aNil)))) (mEnd))) (mEnd)))
def F_Bits_init : FN := defF 1 b_Bits_init
abbrev st_Bits_len : Stmt := inClass (topS 5) 1
def b_Bits_len : MS := mSeq (mRet (mCall oLen (aCons (mFld 0 0 (mVar 0)) aNil))) (mEnd)
def F_Bits_len : FN := defF 0 b_Bits_len
abbrev st_law_begin : Stmt := topS 7
def b_law_begin : MS := mSeq (mSet 1 (mC (.int 1))) (mSeq (mFor (iVal (mVar 0)) (.one 2) (mSeq (mSet 1 (mOp oMod (mOp oAdd (mOp oAdd (mOp oMul (mVar 1) (mC (.int 69621))) (mOp oMod (mCall oIntC (aCons (mVar 2) (aNil))) (mC (.int 2147483629)))) (mC (.int 7))) (mC (.int 2147483647)))) (mEnd))) (mSeq (mRet (mLst (aCons (mCall oList (aCons (mVar 0) (aNil))) (aCons (mC (.int 0)) (aCons (mC (.int 0)) (aCons (mVar 1) (aNil))))))) (mEnd)))
def F_law_begin : FN := defF 2 b_law_begin
abbrev st_law_int : Stmt := topS 9
def b_law_int : MS := mSeq (mRet (mIfE (mTest (mUn (oIsi "int") (mVar 0))) (mVal (mNot (mTest (mUn (oIsi "bool") (mVar 0))))) (mC (.bl false)))) (mEnd)
def F_law_int : FN := defF 0 b_law_int
abbrev st_law_take : Stmt := topS 8
def b_law_take : MS := mSeq (mIf (mAnd (mTest (mOp oEq (mOp oIx (mVar 0) (mC (.int 2))) (mC (.int 0)))) (mTest (mOp oLt (mOp oIx (mVar 0) (mC (.int 1))) (mCall oLen (aCons (mOp oIx (mVar 0) (mC (.int 0))) aNil))))) (mSeq (mSetIx oSetAny (mVar 0) (mC (.int 2)) (mCall oAbs (aCons (mCall oIntC (aCons (mOp oIx (mOp oIx (mVar 0) (mC (.int 0))) (mOp oIx (mVar 0) (mC (.int 1)))) (aNil))) (aNil)))) (mSeq (mSetIx oSetAny (mVar 0) (mC (.int 1)) (mOp oAdd (mOp oIx (mVar 0) (mC (.int 1))) (mC (.int 1)))) (mSeq (mIf (mTest (mOp oLt (mOp oIx (mVar 0) (mC (.int 2))) (mOp oPow (mC (.int 10)) (mC (.int 18))))) (mSeq (mSet 2 (mCall oIntC (aCons (mOp oIx (mVar 0) (mC (.int 2))) (aNil)))) (mSeq (mSetIx oSetAny (mVar 0) (mC (.int 2)) (mC (.int 0))) (mSeq (mRet (mOp oMod (mVar 2) (mVar 1))) (mEnd)))) (mEnd)) (mEnd)))) (mEnd)) (mSeq (mIf (mTest (mOp oGt (mOp oIx (mVar 0) (mC (.int 2))) (mC (.int 0)))) (mSeq (mSet 3 (mOp oMod (mCall oIntC (aCons (mOp oIx (mVar 0) (mC (.int 2))) (aNil))) (mVar 1))) (mSeq (mSetIx oSetAny (mVar 0) (mC (.int 2)) (mOp oDiv (mCall oIntC (aCons (mOp oIx (mVar 0) (mC (.int 2))) (aNil))) (mVar 1))) (mSeq (mRet (mVar 3)) (mEnd)))) (mEnd)) (mSeq (mSetIx oSetAny (mVar 0) (mC (.int 3)) (mOp oMod (mCall oIntC (aCons (mOp oAdd (mOp oMul (mOp oIx (mVar 0) (mC (.int 3))) (mC (.int 48271))) (mC (.int 11))) (aNil))) (mC (.int 2147483647)))) (mSeq (mRet (mOp oMod (mCall oIntC (aCons (mOp oDiv (mOp oIx (mVar 0) (mC (.int 3))) (mC (.int 3))) (aNil))) (mVar 1))) (mEnd))))
def F_law_take : FN := defF 2 b_law_take
abbrev st_Bits_ones_before : Stmt := inClass (topS 5) 2
def b_Bits_ones_before : MS := mSeq (mIf (mOr (mTest (mOp oLt (mVar 1) (mC (.int 0)))) (mTest (mOp oGt (mVar 1) (mCall oLen (aCons (mFld 0 0 (mVar 0)) aNil))))) (mSeq (mRaise 1) (mEnd)) (mEnd)) (mSeq (mSet 2 (mOp oDiv (mVar 1) (mC (.int (8))))) (mSeq (mRet (mOp oAdd (mOp oIx (mFld 0 1 (mVar 0)) (mVar 2)) (mCall oSum (aCons (mSl (mFld 0 0 (mVar 0)) (mPart (mOp oMul (mVar 2) (mC (.int (8))))) (mPart (mVar 1))) (aNil))))) (mEnd)))
def F_Bits_ones_before : FN := defF 1 b_Bits_ones_before
abbrev st_Bits_place_of : Stmt := inClass (topS 5) 3
def b_Bits_place_of : MS := mSeq (mIf (mTest (mOp oLt (mVar 2) (mC (.int 0)))) (mSeq (mRaise 1) (mEnd)) (mEnd)) (mSeq (mSet 3 (mC (.int 0))) (mSeq (mFor (iRange (aCons (mCall oLen (aCons (mFld 0 0 (mVar 0)) aNil)) (aNil))) (.one 4) (mSeq (mIf (mTest (mOp oEq (mOp oIx (mFld 0 0 (mVar 0)) (mVar 4)) (mVar 1))) (mSeq (mIf (mTest (mOp oEq (mVar 3) (mVar 2))) (mSeq (mRet (mVar 4)) (mEnd)) (mEnd)) (mSeq (mSet 3 (mOp oAdd (mVar 3) (mC (.int 1)))) (mEnd))) (mEnd)) (mEnd))) (mSeq (mRaise 1) (mEnd))))
def F_Bits_place_of : FN := defF 2 b_Bits_place_of
abbrev st_Bits_place_of_one : Stmt := inClass (topS 5) 4
def b_Bits_place_of_one : MS := mSeq (mRet (mMeth 0 3 F_Bits_place_of (mVar 0) (aCons (mC (.int 1)) (aCons (mVar 1) (aNil))))) (mEnd)
def F_Bits_place_of_one : FN := defF 0 b_Bits_place_of_one
abbrev st_Bits_place_of_zero : Stmt := inClass (topS 5) 5
def b_Bits_place_of_zero : MS := mSeq (mRet (mMeth 0 3 F_Bits_place_of (mVar 0) (aCons (mC (.int 0)) (aCons (mVar 1) (aNil))))) (mEnd)
def F_Bits_place_of_zero : FN := defF 0 b_Bits_place_of_zero
abbrev st_law_told : Stmt := topS 10
def b_law_told : MS := mSeq (mTry (mSeq (mIf (mTest (mOp oEq (mVar 1) (mC (.int 0)))) (mSeq (mSet 3 (mMeth 0 2 F_Bits_ones_before (mVar 0) (aCons (mVar 2) (aNil)))) (mEnd)) (mSeq (mIf (mTest (mOp oEq (mVar 1) (mC (.int 1)))) (mSeq (mSet 3 (mMeth 0 2 F_Bits_place_of_one (mVar 0) (aCons (mVar 2) (aNil)))) (mEnd)) (mSeq (mSet 3 (mMeth 0 2 F_Bits_place_of_zero (mVar 0) (aCons (mVar 2) (aNil)))) (mEnd))) (mEnd))) (mEnd)) catch_RangeError (fun _ => mSeq (mRet (mC .non)) (mEnd))) (mSeq (mRet (mVar 3)) (mEnd))
def F_law_told : FN := defF 1 b_law_told
abbrev st_law : Stmt := topS 11
def b_law : MS := mSeq (mSet 1 (mDef 1 F_law_begin (aCons (mVar 0) (aNil)))) (mSeq (mSet 2 (mDef 2 F_law_take (aCons (mVar 1) (aCons (mC (.int 4)) (aNil))))) (mSeq (mSet 3 (mLc (iRange (aCons (mDef 2 F_law_take (aCons (mVar 1) (aCons (mC (.int 41)) (aNil)))) (aNil))) (.one 4) [4] (mYes) (mIfE (mTest (mOp oEq (mVar 2) (mC (.int 1)))) (mC (.int 1)) (mIfE (mTest (mOp oEq (mVar 2) (mC (.int 2)))) (mC (.int 0)) (mDef 2 F_law_take (aCons (mVar 1) (aCons (mC (.int 2)) (aNil)))))))) (mSeq (mSet 5 (mMake 0 2 F_Bits_init (aCons (mCall oTuple (aCons (mVar 3) (aNil))) (aNil)))) (mSeq (mSet 6 (mMake 0 2 F_Bits_init (aCons (mCall oTuple (aCons (mLc (iVal (mVar 3)) (.one 7) [7] (mYes) (mOp oSub (mC (.int 1)) (mVar 7))) (aNil))) (aNil)))) (mSeq (mIf (mTest (mOp oNe (mAlt (mCall oLen (aCons (mVar 5) aNil)) (mLenOwn 0 F_Bits_len (mVar 5))) (mCall oLen (aCons (mVar 3) aNil)))) (mSeq (mRet (mC (.bl false))) (mEnd)) (mEnd)) (mSeq (mFor (iRange (aCons (mOp oAdd (mCall oLen (aCons (mVar 3) aNil)) (mC (.int 1))) (aNil))) (.one 8) (mSeq (mSet 9 (mDef 3 F_law_told (aCons (mVar 5) (aCons (mC (.int 0)) (aCons (mVar 8) (aNil)))))) (mSeq (mIf (mOr (mNot (mTest (mDef 1 F_law_int (aCons (mVar 9) (aNil))))) (mOr (mTest (mOp oNe (mVar 9) (mCall oSum (aCons (mSl (mVar 3) (mNoPart) (mPart (mVar 8))) (aNil))))) (mTest (mOp oNe (mDef 3 F_law_told (aCons (mVar 6) (aCons (mC (.int 0)) (aCons (mVar 8) (aNil))))) (mOp oSub (mVar 8) (mVar 9)))))) (mSeq (mRet (mC (.bl false))) (mEnd)) (mEnd)) (mEnd)))) (mSeq (mFor (iVal (mTup (aCons (mC (.int 1)) (aCons (mC (.int 2)) (aNil))))) (.one 10) (mSeq (mSet 11 (mLc (iRange (aCons (mCall oLen (aCons (mVar 3) aNil)) (aNil))) (.one 12) [12] (mTest (mOp oEq (mOp oIx (mVar 3) (mVar 12)) (mOp oSub (mC (.int 2)) (mVar 10)))) (mVar 12))) (mSeq (mFor (iRange (aCons (mCall oLen (aCons (mVar 11) aNil)) (aNil))) (.one 4) (mSeq (mIf (mOr (mTest (mOp oNe (mDef 3 F_law_told (aCons (mVar 5) (aCons (mVar 10) (aCons (mVar 4) (aNil))))) (mOp oIx (mVar 11) (mVar 4)))) (mTest (mOp oNe (mDef 3 F_law_told (aCons (mVar 6) (aCons (mOp oSub (mC (.int 3)) (mVar 10)) (aCons (mVar 4) (aNil))))) (mOp oIx (mVar 11) (mVar 4))))) (mSeq (mRet (mC (.bl false))) (mEnd)) (mEnd)) (mEnd))) (mSeq (mIf (mOr (mTest (mOp oIsNot (mDef 3 F_law_told (aCons (mVar 5) (aCons (mVar 10) (aCons (mCall oLen (aCons (mVar 11) aNil)) (aNil))))) (mC .non))) (mTest (mOp oIsNot (mDef 3 F_law_told (aCons (mVar 5) (aCons (mVar 10) (aCons (mOp oSub (mC (.int 0)) (mC (.int 1))) (aNil))))) (mC .non)))) (mSeq (mRet (mC (.bl false))) (mEnd)) (mEnd)) (mEnd))))) (mSeq (mRet (mIfE (mTest (mOp oIs (mDef 3 F_law_told (aCons (mVar 5) (aCons (mC (.int 0)) (aCons (mOp oSub (mC (.int 0)) (mC (.int 1))) (aNil))))) (mC .non))) (mOp oIs (mDef 3 F_law_told (aCons (mVar 5) (aCons (mC (.int 0)) (aCons (mOp oAdd (mCall oLen (aCons (mVar 3) aNil)) (mC (.int 1))) (aNil))))) (mC .non)) (mC (.bl false)))) (mEnd)))))))))
def F_law : FN := defF 12 b_law
end My

set_option Elab.async false
set_option linter.all false
set_option maxRecDepth 100000
set_option maxHeartbeats 4000000
namespace My
open PySem PySem.Spec PyProof.Rows L2 Mi
/-- what the walk asks of the names of the module -/
structure Txt (K : PySem.W.Frag) (mg : Str → Option Value) (cs es : List Addr) : Prop where
  b_abs : mg "abs" = none
  b_bool : mg "bool" = none
  b_int : mg "int" = none
  b_isinstance : mg "isinstance" = none
  b_len : mg "len" = none
  b_list : mg "list" = none
  b_range : mg "range" = none
  b_sum : mg "sum" = none
  b_tuple : mg "tuple" = none
  k_BLOCK : ∃ t, mg "BLOCK" = some (.int (8) t)
  e_RangeError : ExcAt K mg (gOf K cs es) "RangeError" 1
  x_RangeError : CatchAt K mg (gOf K cs es) "RangeError" catch_RangeError
  cl_0 : ClsAt K (gOf K cs es) 0
  na_0_notes : ∀ C, (gOf K cs es).cls[0]? = some C → NoAttr K C "notes"
  na_0_row : ∀ C, (gOf K cs es).cls[0]? = some C → NoAttr K C "row"
section
variable {P : Program} {w : World} {K : PySem.W.Frag} {mg : Str → Option Value} {base : Heap} {cs es : List Addr}
abbrev N_Bits_init : List Str := ["self", "bits", "start"]
theorem sc_Bits_init : FnScope N_Bits_init ["self", "bits"] (defScope st_Bits_init) := ⟨rfl, rfl, rfl, by decide +kernel, rfl, by decide +kernel, by decide +kernel⟩
theorem ok_Bits_init {f : Addr} {fd : FuncData} (T : Txt K mg cs es)  (F : Fun K "__init__" "Bits.__init__" st_Bits_init f fd) : FnOk P w K mg base (L2.CX P w) 1 f fd ["self", "bits"] (spOf (gOf K cs es) 2 F_Bits_init) :=
  def_ok (k := 0) F sc_Bits_init fun cdv A outer s0 H E hr tk hp => s_seq (s_fldset (c := 0) (f := 0) T.cl_0 T.na_0_row rfl (s_var 0) (s_var 1)) (s_seq (s_fldset (c := 0) (f := 1) T.cl_0 T.na_0_notes rfl (s_var 0) (s_lst (s_cons (s_int) (s_nil)))) (s_seq (s_for hp rfl (i_range3 T.b_range (s_cons (s_int) (s_cons (s_callB (c_len rfl) T.b_len (s_cons (s_var 1) s_nil)) (s_cons (s_glob T.k_BLOCK) (s_nil))))) (g_one 2 sc_Bits_init.nd) (s_seq (s_expr (s_mt rfl ty_lst PySem.F.plainAttrs_list PySem.F.slot_list_append PySem.F.type_list_append (t_append) (s_fld (c := 0) (f := 1) T.cl_0 T.na_0_notes rfl (s_var 0)) (s_cons (s_op (p_add rfl) (s_ix (p_ix rfl) (s_fld (c := 0) (f := 1) T.cl_0 T.na_0_notes rfl (s_var 0)) (s_un p_neg (s_int))) (s_callB (c_sum rfl rfl) T.b_sum (s_cons (s_slice rfl (s_var 1) (o_some (s_var 2)) (o_some (s_op (p_add rfl) (s_var 2) (s_glob T.k_BLOCK)))) (s_nil)))) (s_nil)))) (s_end))) (s_end)))
abbrev N_Bits_len : List Str := ["self"]
theorem sc_Bits_len : FnScope N_Bits_len ["self"] (defScope st_Bits_len) := ⟨rfl, rfl, rfl, by decide +kernel, rfl, by decide +kernel, by decide +kernel⟩
theorem ok_Bits_len {f : Addr} {fd : FuncData} (T : Txt K mg cs es)  (F : Fun K "__len__" "Bits.__len__" st_Bits_len f fd) : FnOk P w K mg base (L2.CX P w) 1 f fd ["self"] (spOf (gOf K cs es) 1 F_Bits_len) :=
  def_ok (k := 0) F sc_Bits_len fun cdv A outer s0 H E hr tk hp => s_seq (s_ret (s_callB (c_len rfl) T.b_len (s_cons (s_fld (c := 0) (f := 0) T.cl_0 T.na_0_row rfl (s_var 0)) s_nil))) (s_end)
abbrev N_law_begin : List Str := ["_law_script", "_law_seed", "_law_cell"]
theorem sc_law_begin : FnScope N_law_begin ["_law_script"] (defScope st_law_begin) := ⟨rfl, rfl, rfl, by decide +kernel, rfl, by decide +kernel, by decide +kernel⟩
theorem ok_law_begin {f : Addr} {fd : FuncData} (T : Txt K mg cs es)  (F : Fun K "_law_begin" "_law_begin" st_law_begin f fd) : FnOk P w K mg base (L2.CX P w) 1 f fd ["_law_script"] (spOf (gOf K cs es) 1 F_law_begin) :=
  def_ok (k := 0) F sc_law_begin fun cdv A outer s0 H E hr tk hp => s_seq (s_set 1 sc_law_begin.nd (s_int)) (s_seq (s_for hp rfl (i_val rfl (s_var 0)) (g_one 2 sc_law_begin.nd) (s_seq (s_set 1 sc_law_begin.nd (s_op (p_mod) (s_op (p_add rfl) (s_op (p_add rfl) (s_op (p_mul) (s_var 1) (s_int)) (s_op (p_mod) (s_callTy (c_int) T.b_int (s_cons (s_var 2) (s_nil))) (s_int))) (s_int)) (s_int))) (s_end))) (s_seq (s_ret (s_lst (s_cons (s_callTy (c_list rfl) T.b_list (s_cons (s_var 0) (s_nil))) (s_cons (s_int) (s_cons (s_int) (s_cons (s_var 1) (s_nil))))))) (s_end)))
abbrev N_law_int : List Str := ["_law_actual"]
theorem sc_law_int : FnScope N_law_int ["_law_actual"] (defScope st_law_int) := ⟨rfl, rfl, rfl, by decide +kernel, rfl, by decide +kernel, by decide +kernel⟩
theorem ok_law_int {f : Addr} {fd : FuncData} (T : Txt K mg cs es)  (F : Fun K "_law_int" "_law_int" st_law_int f fd) : FnOk P w K mg base (L2.CX P w) 1 f fd ["_law_actual"] (spOf (gOf K cs es) 1 F_law_int) :=
  def_ok (k := 0) F sc_law_int fun cdv A outer s0 H E hr tk hp => s_seq (s_ret (s_v_and (s_isi (t := "int") T.b_isinstance T.b_int (by decide +kernel) (by decide) (s_var 0)) (s_v_one (s_v_not (s_isi (t := "bool") T.b_isinstance T.b_bool (by decide +kernel) (by decide) (s_var 0)))))) (s_end)
abbrev N_law_take : List Str := ["_law_d", "_law_many", "_law_small", "_law_digit"]
theorem sc_law_take : FnScope N_law_take ["_law_d", "_law_many"] (defScope st_law_take) := ⟨rfl, rfl, rfl, by decide +kernel, rfl, by decide +kernel, by decide +kernel⟩
theorem ok_law_take {f : Addr} {fd : FuncData} (T : Txt K mg cs es)  (F : Fun K "_law_take" "_law_take" st_law_take f fd) : FnOk P w K mg base (L2.CX P w) 1 f fd ["_law_d", "_law_many"] (spOf (gOf K cs es) 2 F_law_take) :=
  def_ok (k := 0) F sc_law_take fun cdv A outer s0 H E hr tk hp => s_seq (s_if (s_t_bool (s_and (s_t_cmp (p_eq rfl hr.units) (s_ix (p_ix rfl) (s_var 0) (s_int)) (s_int)) (s_and1 (s_t_cmp (p_ltA rfl hr) (s_ix (p_ix rfl) (s_var 0) (s_int)) (s_callB (c_len rfl) T.b_len (s_cons (s_ix (p_ix rfl) (s_var 0) (s_int)) s_nil)))))) (s_seq (s_setix (p_setany (hu_of hr)) (s_var 0) (s_int) (s_callB (c_abs) T.b_abs (s_cons (s_callTy (c_int) T.b_int (s_cons (s_ix (p_ix rfl) (s_ix (p_ix rfl) (s_var 0) (s_int)) (s_ix (p_ix rfl) (s_var 0) (s_int))) (s_nil))) (s_nil)))) (s_seq (s_setix (p_setany (hu_of hr)) (s_var 0) (s_int) (s_op (p_add rfl) (s_ix (p_ix rfl) (s_var 0) (s_int)) (s_int))) (s_seq (s_if (s_t_cmp (p_ltA rfl hr) (s_ix (p_ix rfl) (s_var 0) (s_int)) (s_op (p_pow) (s_int) (s_int))) (s_seq (s_set 2 sc_law_take.nd (s_callTy (c_int) T.b_int (s_cons (s_ix (p_ix rfl) (s_var 0) (s_int)) (s_nil)))) (s_seq (s_setix (p_setany (hu_of hr)) (s_var 0) (s_int) (s_int)) (s_seq (s_ret (s_op (p_mod) (s_var 2) (s_var 1))) (s_end)))) (s_end)) (s_end)))) (s_end)) (s_seq (s_if (s_t_cmp (p_gtA) (s_ix (p_ix rfl) (s_var 0) (s_int)) (s_int)) (s_seq (s_set 3 sc_law_take.nd (s_op (p_mod) (s_callTy (c_int) T.b_int (s_cons (s_ix (p_ix rfl) (s_var 0) (s_int)) (s_nil))) (s_var 1))) (s_seq (s_setix (p_setany (hu_of hr)) (s_var 0) (s_int) (s_op (p_div) (s_callTy (c_int) T.b_int (s_cons (s_ix (p_ix rfl) (s_var 0) (s_int)) (s_nil))) (s_var 1))) (s_seq (s_ret (s_var 3)) (s_end)))) (s_end)) (s_seq (s_setix (p_setany (hu_of hr)) (s_var 0) (s_int) (s_op (p_mod) (s_callTy (c_int) T.b_int (s_cons (s_op (p_add rfl) (s_op (p_mul) (s_ix (p_ix rfl) (s_var 0) (s_int)) (s_int)) (s_int)) (s_nil))) (s_int))) (s_seq (s_ret (s_op (p_mod) (s_callTy (c_int) T.b_int (s_cons (s_op (p_div) (s_ix (p_ix rfl) (s_var 0) (s_int)) (s_int)) (s_nil))) (s_var 1))) (s_end))))
abbrev N_Bits_ones_before : List Str := ["self", "at", "block"]
theorem sc_Bits_ones_before : FnScope N_Bits_ones_before ["self", "at"] (defScope st_Bits_ones_before) := ⟨rfl, rfl, rfl, by decide +kernel, rfl, by decide +kernel, by decide +kernel⟩
theorem ok_Bits_ones_before {f : Addr} {fd : FuncData} (T : Txt K mg cs es)  (F : Fun K "ones_before" "Bits.ones_before" st_Bits_ones_before f fd) : FnOk P w K mg base (L2.CX P w) 1 f fd ["self", "at"] (spOf (gOf K cs es) 2 F_Bits_ones_before) :=
  def_ok (k := 0) F sc_Bits_ones_before fun cdv A outer s0 H E hr tk hp => s_seq (s_if (s_t_bool (s_or (s_t_cmp (p_ltA rfl hr) (s_var 1) (s_int)) (s_or1 (s_t_cmp (p_gtA) (s_var 1) (s_callB (c_len rfl) T.b_len (s_cons (s_fld (c := 0) (f := 0) T.cl_0 T.na_0_row rfl (s_var 0)) s_nil)))))) (s_seq (s_raise T.e_RangeError rfl tk) (s_end)) (s_end)) (s_seq (s_set 2 sc_Bits_ones_before.nd (s_op (p_div) (s_var 1) (s_glob T.k_BLOCK))) (s_seq (s_ret (s_op (p_add rfl) (s_ix (p_ix rfl) (s_fld (c := 0) (f := 1) T.cl_0 T.na_0_notes rfl (s_var 0)) (s_var 2)) (s_callB (c_sum rfl rfl) T.b_sum (s_cons (s_slice rfl (s_fld (c := 0) (f := 0) T.cl_0 T.na_0_row rfl (s_var 0)) (o_some (s_op (p_mul) (s_var 2) (s_glob T.k_BLOCK))) (o_some (s_var 1))) (s_nil))))) (s_end)))
abbrev N_Bits_place_of : List Str := ["self", "bit", "k", "seen", "at"]
theorem sc_Bits_place_of : FnScope N_Bits_place_of ["self", "bit", "k"] (defScope st_Bits_place_of) := ⟨rfl, rfl, rfl, by decide +kernel, rfl, by decide +kernel, by decide +kernel⟩
theorem ok_Bits_place_of {f : Addr} {fd : FuncData} (T : Txt K mg cs es)  (F : Fun K "place_of" "Bits.place_of" st_Bits_place_of f fd) : FnOk P w K mg base (L2.CX P w) 1 f fd ["self", "bit", "k"] (spOf (gOf K cs es) 3 F_Bits_place_of) :=
  def_ok (k := 0) F sc_Bits_place_of fun cdv A outer s0 H E hr tk hp => s_seq (s_if (s_t_cmp (p_ltA rfl hr) (s_var 2) (s_int)) (s_seq (s_raise T.e_RangeError rfl tk) (s_end)) (s_end)) (s_seq (s_set 3 sc_Bits_place_of.nd (s_int)) (s_seq (s_for hp rfl (i_range1 T.b_range (s_cons (s_callB (c_len rfl) T.b_len (s_cons (s_fld (c := 0) (f := 0) T.cl_0 T.na_0_row rfl (s_var 0)) s_nil)) (s_nil))) (g_one 4 sc_Bits_place_of.nd) (s_seq (s_if (s_t_cmp (p_eq rfl hr.units) (s_ix (p_ix rfl) (s_fld (c := 0) (f := 0) T.cl_0 T.na_0_row rfl (s_var 0)) (s_var 4)) (s_var 1)) (s_seq (s_if (s_t_cmp (p_eq rfl hr.units) (s_var 3) (s_var 2)) (s_seq (s_ret (s_var 4)) (s_end)) (s_end)) (s_seq (s_set 3 sc_Bits_place_of.nd (s_op (p_add rfl) (s_var 3) (s_int))) (s_end))) (s_end)) (s_end))) (s_seq (s_raise T.e_RangeError rfl tk) (s_end))))
abbrev N_Bits_place_of_one : List Str := ["self", "k"]
theorem sc_Bits_place_of_one : FnScope N_Bits_place_of_one ["self", "k"] (defScope st_Bits_place_of_one) := ⟨rfl, rfl, rfl, by decide +kernel, rfl, by decide +kernel, by decide +kernel⟩
theorem ok_Bits_place_of_one {f : Addr} {fd : FuncData} (T : Txt K mg cs es) (D_Bits_place_of : MethAt P w K mg base (gOf K cs es) 1 0 "place_of" 3 F_Bits_place_of) (F : Fun K "place_of_one" "Bits.place_of_one" st_Bits_place_of_one f fd) : FnOk P w K mg base (L2.CX P w) 2 f fd ["self", "k"] (spOf (gOf K cs es) 2 F_Bits_place_of_one) :=
  def_ok (k := 1) F sc_Bits_place_of_one fun cdv A outer s0 H E hr tk hp => s_seq (s_ret (s_meth D_Bits_place_of (hr.mono (by decide)) tk (s_var 0) (s_cons (s_int) (s_cons (s_var 1) (s_nil))))) (s_end)
abbrev N_Bits_place_of_zero : List Str := ["self", "k"]
theorem sc_Bits_place_of_zero : FnScope N_Bits_place_of_zero ["self", "k"] (defScope st_Bits_place_of_zero) := ⟨rfl, rfl, rfl, by decide +kernel, rfl, by decide +kernel, by decide +kernel⟩
theorem ok_Bits_place_of_zero {f : Addr} {fd : FuncData} (T : Txt K mg cs es) (D_Bits_place_of : MethAt P w K mg base (gOf K cs es) 1 0 "place_of" 3 F_Bits_place_of) (F : Fun K "place_of_zero" "Bits.place_of_zero" st_Bits_place_of_zero f fd) : FnOk P w K mg base (L2.CX P w) 2 f fd ["self", "k"] (spOf (gOf K cs es) 2 F_Bits_place_of_zero) :=
  def_ok (k := 1) F sc_Bits_place_of_zero fun cdv A outer s0 H E hr tk hp => s_seq (s_ret (s_meth D_Bits_place_of (hr.mono (by decide)) tk (s_var 0) (s_cons (s_int) (s_cons (s_var 1) (s_nil))))) (s_end)
abbrev N_law_told : List Str := ["_law_bits", "_law_which", "_law_k", "_law_found"]
theorem sc_law_told : FnScope N_law_told ["_law_bits", "_law_which", "_law_k"] (defScope st_law_told) := ⟨rfl, rfl, rfl, by decide +kernel, rfl, by decide +kernel, by decide +kernel⟩
theorem ok_law_told {f : Addr} {fd : FuncData} (T : Txt K mg cs es) (D_Bits_ones_before : MethAt P w K mg base (gOf K cs es) 1 0 "ones_before" 2 F_Bits_ones_before) (D_Bits_place_of_one : MethAt P w K mg base (gOf K cs es) 2 0 "place_of_one" 2 F_Bits_place_of_one) (D_Bits_place_of_zero : MethAt P w K mg base (gOf K cs es) 2 0 "place_of_zero" 2 F_Bits_place_of_zero) (F : Fun K "_law_told" "_law_told" st_law_told f fd) : FnOk P w K mg base (L2.CX P w) 3 f fd ["_law_bits", "_law_which", "_law_k"] (spOf (gOf K cs es) 3 F_law_told) :=
  def_ok (k := 2) F sc_law_told fun cdv A outer s0 H E hr tk hp => s_seq (s_tryC T.x_RangeError rfl rfl tk (fun W2 pn xe tk2 hp2 => s_seq (s_if (s_t_cmp (p_eq rfl hr.units) (s_var 1) (s_int)) (s_seq (s_set 3 sc_law_told.nd (s_meth D_Bits_ones_before (hr.mono (by decide)) tk2 (s_var 0) (s_cons (s_var 2) (s_nil)))) (s_end)) (s_seq (s_if (s_t_cmp (p_eq rfl hr.units) (s_var 1) (s_int)) (s_seq (s_set 3 sc_law_told.nd (s_meth D_Bits_place_of_one (hr.mono (by decide)) tk2 (s_var 0) (s_cons (s_var 2) (s_nil)))) (s_end)) (s_seq (s_set 3 sc_law_told.nd (s_meth D_Bits_place_of_zero (hr.mono (by decide)) tk2 (s_var 0) (s_cons (s_var 2) (s_nil)))) (s_end))) (s_end))) (s_end)) (fun i D hi a oe pn hz hv => s_seq (s_ret (s_non)) (s_end))) (s_seq (s_ret (s_var 3)) (s_end))
abbrev N_law : List Str := ["_law_script", "_law_d", "_law_menu", "_law_row", "_law_k", "_law_bits", "_law_other", "_law_bit", "_law_at", "_law_told_here", "_law_which", "_law_places", "_law_p"]
theorem sc_law : FnScope N_law ["_law_script"] (defScope st_law) := ⟨rfl, rfl, rfl, by decide +kernel, rfl, by decide +kernel, by decide +kernel⟩
theorem ok_law {f : Addr} {fd : FuncData} (T : Txt K mg cs es) (D_Bits_init : MakeAt P w K mg base (gOf K cs es) 1 "Bits" 0 2 F_Bits_init) (D_Bits_len : MethAt P w K mg base (gOf K cs es) 1 0 "__len__" 1 F_Bits_len) (D_law_begin : DefAt P w K mg base (gOf K cs es) 1 "_law_begin" 1 F_law_begin) (D_law_int : DefAt P w K mg base (gOf K cs es) 1 "_law_int" 1 F_law_int) (D_law_take : DefAt P w K mg base (gOf K cs es) 1 "_law_take" 2 F_law_take) (D_law_told : DefAt P w K mg base (gOf K cs es) 3 "_law_told" 3 F_law_told) (F : Fun K "law" "law" st_law f fd) : FnOk P w K mg base (L2.CX P w) 4 f fd ["_law_script"] (spOf (gOf K cs es) 1 F_law) :=
  def_ok (k := 3) F sc_law fun cdv A outer s0 H E hr tk hp => s_seq (s_set 1 sc_law.nd (s_call D_law_begin (hr.mono (by decide)) tk (s_cons (s_var 0) (s_nil)))) (s_seq (s_set 2 sc_law.nd (s_call D_law_take (hr.mono (by decide)) tk (s_cons (s_var 1) (s_cons (s_int) (s_nil))))) (s_seq (s_setLcC 3 [("_law_k", 4)] rfl sc_law.nd (i_range1 T.b_range (s_cons (s_call D_law_take (hr.mono (by decide)) tk (s_cons (s_var 1) (s_cons (s_int) (s_nil)))) (s_nil))) (blkOk_by (N := N_law) (sc := defScope st_law) (by decide +kernel)) (fun _ _ _ _ _ => g_one 4 sc_law.nd) (fun _ _ _ _ _ => q_nil) (fun _ _ _ _ _ => s_ifExp (s_t_cmp (p_eq rfl hr.units) (s_var 2) (s_int)) (s_int) (s_ifExp (s_t_cmp (p_eq rfl hr.units) (s_var 2) (s_int)) (s_int) (s_call D_law_take (hr.mono (by decide)) takes0 (s_cons (s_var 1) (s_cons (s_int) (s_nil))))))) (s_seq (s_set 5 sc_law.nd (s_make D_Bits_init (hr.mono (by decide)) tk (s_cons (s_callTy (c_tuple rfl) T.b_tuple (s_cons (s_var 3) (s_nil))) (s_nil)))) (s_seq (s_set 6 sc_law.nd (s_make D_Bits_init (hr.mono (by decide)) tk (s_cons (s_callTy (c_tuple rfl) T.b_tuple (s_cons (s_lc [("_law_bit", 7)] rfl sc_law.nd (i_val rfl (s_var 3)) (blkOk_by (N := N_law) (sc := defScope st_law) (by decide +kernel)) (fun _ _ _ _ _ => g_one 7 sc_law.nd) (fun _ _ _ _ _ => q_nil) (fun _ _ _ _ _ => s_op (p_sub) (s_int) (s_var 7))) (s_nil))) (s_nil)))) (s_seq (s_if (s_t_cmp (p_ne rfl hr.units) (s_alt (s_callB (c_len rfl) T.b_len (s_cons (s_var 5) s_nil)) (s_lenOwn D_Bits_len (hr.mono (by decide)) T.b_len (s_var 5))) (s_callB (c_len rfl) T.b_len (s_cons (s_var 3) s_nil))) (s_seq (s_ret (s_bl)) (s_end)) (s_end)) (s_seq (s_for hp rfl (i_range1 T.b_range (s_cons (s_op (p_add rfl) (s_callB (c_len rfl) T.b_len (s_cons (s_var 3) s_nil)) (s_int)) (s_nil))) (g_one 8 sc_law.nd) (s_seq (s_set 9 sc_law.nd (s_call D_law_told (hr.mono (by decide)) tk (s_cons (s_var 5) (s_cons (s_int) (s_cons (s_var 8) (s_nil)))))) (s_seq (s_if (s_t_bool (s_or (s_t_not (s_t_val (s_call D_law_int (hr.mono (by decide)) tk (s_cons (s_var 9) (s_nil))))) (s_or (s_t_cmp (p_ne rfl hr.units) (s_var 9) (s_callB (c_sum rfl rfl) T.b_sum (s_cons (s_slice rfl (s_var 3) (o_none) (o_some (s_var 8))) (s_nil)))) (s_or1 (s_t_cmp (p_ne rfl hr.units) (s_call D_law_told (hr.mono (by decide)) tk (s_cons (s_var 6) (s_cons (s_int) (s_cons (s_var 8) (s_nil))))) (s_op (p_sub) (s_var 8) (s_var 9))))))) (s_seq (s_ret (s_bl)) (s_end)) (s_end)) (s_end)))) (s_seq (s_for hp rfl (i_val rfl (s_tup (s_cons (s_int) (s_cons (s_int) (s_nil))))) (g_one 10 sc_law.nd) (s_seq (s_setLc 11 [("_law_p", 12)] rfl sc_law.nd (i_range1 T.b_range (s_cons (s_callB (c_len rfl) T.b_len (s_cons (s_var 3) s_nil)) (s_nil))) (blkOk_by (N := N_law) (sc := defScope st_law) (by decide +kernel)) (fun _ _ _ _ _ => g_one 12 sc_law.nd) (fun _ _ _ _ _ => q_one (s_t_cmp (p_eq rfl hr.units) (s_ix (p_ix rfl) (s_var 3) (s_var 12)) (s_op (p_sub) (s_int) (s_var 10)))) (fun _ _ _ _ _ => s_var 12)) (s_seq (s_for hp rfl (i_range1 T.b_range (s_cons (s_callB (c_len rfl) T.b_len (s_cons (s_var 11) s_nil)) (s_nil))) (g_one 4 sc_law.nd) (s_seq (s_if (s_t_bool (s_or (s_t_cmp (p_ne rfl hr.units) (s_call D_law_told (hr.mono (by decide)) tk (s_cons (s_var 5) (s_cons (s_var 10) (s_cons (s_var 4) (s_nil))))) (s_ix (p_ix rfl) (s_var 11) (s_var 4))) (s_or1 (s_t_cmp (p_ne rfl hr.units) (s_call D_law_told (hr.mono (by decide)) tk (s_cons (s_var 6) (s_cons (s_op (p_sub) (s_int) (s_var 10)) (s_cons (s_var 4) (s_nil))))) (s_ix (p_ix rfl) (s_var 11) (s_var 4)))))) (s_seq (s_ret (s_bl)) (s_end)) (s_end)) (s_end))) (s_seq (s_if (s_t_bool (s_or (s_t_cmp (p_isnot) (s_call D_law_told (hr.mono (by decide)) tk (s_cons (s_var 5) (s_cons (s_var 10) (s_cons (s_callB (c_len rfl) T.b_len (s_cons (s_var 11) s_nil)) (s_nil))))) (s_non)) (s_or1 (s_t_cmp (p_isnot) (s_call D_law_told (hr.mono (by decide)) tk (s_cons (s_var 5) (s_cons (s_var 10) (s_cons (s_op (p_sub) (s_int) (s_int)) (s_nil))))) (s_non))))) (s_seq (s_ret (s_bl)) (s_end)) (s_end)) (s_end))))) (s_seq (s_ret (s_v_and (s_cmp (p_is) (s_call D_law_told (hr.mono (by decide)) tk (s_cons (s_var 5) (s_cons (s_int) (s_cons (s_op (p_sub) (s_int) (s_int)) (s_nil))))) (s_non)) (s_v_one (s_cmp (p_is) (s_call D_law_told (hr.mono (by decide)) tk (s_cons (s_var 5) (s_cons (s_int) (s_cons (s_op (p_add rfl) (s_callB (c_len rfl) T.b_len (s_cons (s_var 3) s_nil)) (s_int)) (s_nil))))) (s_non))))) (s_end)))))))))
end
end My

set_option Elab.async false
set_option linter.all false
set_option maxRecDepth 100000
set_option maxHeartbeats 4000000
namespace My
open Mi

/-! ### bits, plainly -/
/-- how many ones stand in the first n places -/
def ones (row : List Int) (n : Nat) : Int := (row.take n).sum
def notes (row : List Int) (n : Nat) : List IV := (List.range n).map fun k => .int (ones row (8 * k))
def blocks (row : List Int) : Nat := (row.length + 7) / 8
/-- an object with a row stands at n -/
def BitsAt (st : Store) (n : Nat) (row : List Int) : Prop := ∃ m, st[n]? = some (.ins 0 [(0, .tup (row.map .int)), (1, .loc m)]) ∧ st[m]? = some (.lst (notes row (blocks row + 1)))
theorem BitsAt.more {st l : Store} {n : Nat} {row : List Int} (h : BitsAt st n row) : BitsAt (st ++ l) n row := by
  obtain ⟨m, h1, h2⟩ := h
  have l1 := (List.getElem?_eq_some_iff.mp h1).1
  have l2 := (List.getElem?_eq_some_iff.mp h2).1
  exact ⟨m, by rw [List.getElem?_append_left l1]; exact h1, by rw [List.getElem?_append_left l2]; exact h2⟩
theorem ones_step (row : List Int) (a b : Nat) (h : a ≤ b) : ones row a + ((row.drop a).take (b - a)).sum = ones row b := by
  unfold ones
  rw [← List.sum_append, ← List.take_add]
  congr 2
  omega
theorem notes_get {row : List Int} {n k : Nat} (h : k < n) : (notes row n)[k]? = some (.int (ones row (8 * k))) := by
  unfold notes
  rw [List.getElem?_map, List.getElem?_range h]
  rfl
theorem notes_succ (row : List Int) (n : Nat) : notes row (n + 1) = notes row n ++ [.int (ones row (8 * n))] := by
  unfold notes
  rw [List.range_succ, List.map_append]
  rfl
theorem init_ok (row : List Int) (h : row.length ≤ 40) (st : Store) : F_Bits_init [.loc st.length, .tup (row.map .int)] (st ++ [.ins 0 []]) =
    .ok .non (st ++ [.ins 0 [(0, .tup (row.map .int)), (1, .loc (st.length + 1))]] ++ [.lst (notes row (blocks row + 1))]) := by
  unfold F_Bits_init defF b_Bits_init
  have hb : (turns 0 (row.length : Int) 8) = blocks row := by
    unfold turns blocks
    rw [if_neg (by decide)]
    omega
  have hin : inLine (row.length : Int) = true := inLine_iff.mpr ⟨by omega, by omega⟩
  have hin0 : inLine 0 = true := inLine_iff.mpr ⟨by omega, by omega⟩
  have ha : (st ++ [Cell.ins 0 []])[st.length]? = some (.ins 0 []) := List.getElem?_concat_length
  have hset : (st ++ [Cell.ins 0 []]).set st.length (.ins 0 [(0, .tup (row.map .int))]) = st ++ [.ins 0 [(0, .tup (row.map .int))]] := by
    rw [List.set_append_right _ _ (Nat.le_refl _), Nat.sub_self]; rfl
  have ha2 : (st ++ [Cell.ins 0 [(0, .tup (row.map .int))], .lst [.int 0]])[st.length]? = some (.ins 0 [(0, .tup (row.map .int))]) := by simp
  have hset2 : (st ++ [Cell.ins 0 [(0, .tup (row.map .int))], .lst [.int 0]]).set st.length (.ins 0 [(0, .tup (row.map .int)), (1, .loc (st.length + 1))]) = st ++ [.ins 0 [(0, .tup (row.map .int)), (1, .loc (st.length + 1))], .lst [.int 0]] := by
    rw [List.set_append_right _ _ (Nat.le_refl _), Nat.sub_self]; rfl
  have loop := forL_ind (t := .one 2) (xs := steps 0 8 (blocks row)) (body := mSeq (mDrop (mMt isLst oAppend (mFld 0 1 (mVar 0)) (aCons (mOp oAdd (mOp oIx (mFld 0 1 (mVar 0)) (mUn oNeg (mC (.int 1)))) (mCall oSum (aCons (mSl (mVar 1) (mPart (mVar 2)) (mPart (mOp oAdd (mVar 2) (mC (.int (8)))))) (aNil)))) (aNil)))) (mEnd))
    (fun i sl s => ∃ y, sl = [some (.loc st.length), some (.tup (row.map .int)), y] ∧ s = st ++ [.ins 0 [(0, .tup (row.map .int)), (1, .loc (st.length + 1))], .lst (notes row (i + 1))])
    (sl := [some (.loc st.length), some (.tup (row.map .int)), none]) (st := st ++ [.ins 0 [(0, .tup (row.map .int)), (1, .loc (st.length + 1))], .lst [.int 0]]) ⟨none, rfl, rfl⟩ ?_
  · obtain ⟨sl', st', e, y, rfl, rfl⟩ := loop
    have hf := mFor_fix (t := .one 2) (body := mSeq (mDrop (mMt isLst oAppend (mFld 0 1 (mVar 0)) (aCons (mOp oAdd (mOp oIx (mFld 0 1 (mVar 0)) (mUn oNeg (mC (.int 1)))) (mCall oSum (aCons (mSl (mVar 1) (mPart (mVar 2)) (mPart (mOp oAdd (mVar 2) (mC (.int (8)))))) (aNil)))) (aNil)))) (mEnd)) (iRange3_of (st1 := st ++ [.ins 0 [(0, .tup (row.map .int)), (1, .loc (st.length + 1))], .lst [.int 0]]) (a := aCons (mC (.int 0)) (aCons (mCall oLen (aCons (mVar 1) aNil)) (aCons (mC (.int 8)) aNil))) (sl := [some (.loc st.length), some (.tup (row.map .int)), none]) (st := st ++ [.ins 0 [(0, .tup (row.map .int)), (1, .loc (st.length + 1))], .lst [.int 0]]) (i := 0) (j := row.length) (c := 8)
      (by simp [aCons, mC, mCall, mVar, aNil]) hin0 hin (by decide))
    rw [hb, e] at hf
    simp [mSeq, mFldSet, mVar, mC, mLst, aCons, aNil, setFld_of ha (Nat.zero_le _), hset, setFld_of ha2 (show 1 ≤ 20 by decide), hset2, putN, tooLong_no (show 1 ≤ 100000 by decide)]
    rw [hf]
    simp [mEnd]
    rw [steps_length, gcV_ne]
    rw [List.length_append, List.take_append]
    simp
  · rintro i x sl s hx ⟨y, rfl, rfl⟩
    obtain ⟨hi, rfl⟩ := steps_get hx
    refine ⟨_, rfl, _, _, .inl ?_, some (.int (0 + (i : Nat) * 8)), rfl, rfl⟩
    obtain ⟨z, hz⟩ : ∃ z : Int, z = 0 + (i : Nat) * 8 := ⟨_, rfl⟩
    rw [← hz]
    have c1 : cutI row (some z) (some (z + 8)) = (row.drop (8 * i)).take 8 := by
      have := cutI_nat row (8 * i) (8 * i + 8)
      rw [show z = ((8 * i : Nat) : Int) by omega, show (((8 * i : Nat) : Int) + 8) = ((8 * i + 8 : Nat) : Int) by omega, this, Nat.add_sub_cancel_left]
    clear hz hx
    have hn : (st ++ [Cell.ins 0 [(0, .tup (row.map .int)), (1, .loc (st.length + 1))], .lst (notes row (i + 1))])[st.length]? = some (.ins 0 [(0, .tup (row.map .int)), (1, .loc (st.length + 1))]) := by simp
    have hm : (st ++ [Cell.ins 0 [(0, .tup (row.map .int)), (1, .loc (st.length + 1))], .lst (notes row (i + 1))])[st.length + 1]? = some (.lst (notes row (i + 1))) := by simp
    have hset3 : (st ++ [Cell.ins 0 [(0, .tup (row.map .int)), (1, .loc (st.length + 1))], .lst (notes row (i + 1))]).set (st.length + 1) (.lst (notes row (i + 1 + 1))) = st ++ [Cell.ins 0 [(0, .tup (row.map .int)), (1, .loc (st.length + 1))], .lst (notes row (i + 1 + 1))] := by
      rw [List.set_append_right _ _ (by omega)]
      simp
    rw [← hset3]
    generalize (st ++ [Cell.ins 0 [(0, .tup (row.map .int)), (1, .loc (st.length + 1))], .lst (notes row (i + 1))]) = s at hn hm ⊢
    have f1 : mFld 0 1 (mVar 0) [some (.loc st.length), some (.tup (row.map .int)), some (.int z)] s = .ok (.loc (st.length + 1)) s := mFld_of rfl hn rfl
    have l1 : isLst (.loc (st.length + 1)) s = true := by simp [isLst, hm]
    have last : oIx (.loc (st.length + 1)) (.int (-1)) s = .ok (.int (ones row (8 * i))) s := by
      rw [oIx_lst hm, notes_succ, L2.atI_last]
    have app : oAppend (.loc (st.length + 1)) [.int (ones row (8 * i) + ((row.drop (8 * i)).take 8).sum)] s = .ok .non (s.set (st.length + 1) (.lst (notes row (i + 1 + 1)))) := by
      have e : ones row (8 * i) + ((row.drop (8 * i)).take 8).sum = ones row (8 * (i + 1)) := by
        have := ones_step row (8 * i) (8 * (i + 1)) (by omega)
        rw [show 8 * (i + 1) - 8 * i = 8 by omega] at this
        exact this
      simp only [oAppend, hm]
      have hbl : blocks row ≤ 6 := by unfold blocks; omega
      rw [if_pos (by rw [show (notes row (i + 1)).length = i + 1 by simp [notes]]; omega), e, ← notes_succ]
    simp [-List.map_take, -List.map_drop, mSeq, mDrop, mMt, f1, l1, aCons, aNil, mOp, mUn, mC, mVar, mCall, mSl, mPart, last, oSl, mEnd, c1, app]
    rw [gcV_len (by rw [List.length_set])]
    rfl
end My

set_option Elab.async false
set_option linter.all false
set_option maxRecDepth 100000
set_option maxHeartbeats 4000000
namespace My
open Mi

theorem take_map (row : List Int) (n : Nat) : (row.map IV.int).take n = (row.take n).map IV.int := by rw [List.map_take]
theorem len_ok {st : Store} {n : Nat} {row : List Int} (b : BitsAt st n row) : F_Bits_len [.loc n] st = .ok (.int row.length) st := by
  obtain ⟨m, hn, hm⟩ := b
  have f0 : ∀ sl : Slots, sl[0]? = some (some (.loc n)) → mFld 0 0 (mVar 0) sl st = .ok (.tup (row.map .int)) st := fun sl h => mFld_of (by simp [h]) hn rfl
  simp [F_Bits_len, defF, b_Bits_len, f0, oLen_tup]
theorem ones_ok {st : Store} {n : Nat} {row : List Int} (b : BitsAt st n row) (hl : row.length ≤ 40) (a : Int) : F_Bits_ones_before [.loc n, .int a] st = if a < 0 ∨ a > row.length then .exc 1 st else .ok (.int (ones row a.toNat)) st := by
  obtain ⟨m, hn, hm⟩ := b
  have f0 : ∀ sl : Slots, sl[0]? = some (some (.loc n)) → mFld 0 0 (mVar 0) sl st = .ok (.tup (row.map .int)) st := fun sl h => mFld_of (by simp [h]) hn rfl
  have f1 : ∀ sl : Slots, sl[0]? = some (some (.loc n)) → mFld 0 1 (mVar 0) sl st = .ok (.loc m) st := fun sl h => mFld_of (by simp [h]) hn rfl
  unfold F_Bits_ones_before defF b_Bits_ones_before
  by_cases h0 : a < 0
  · simp [h0, oLt, mRaise]
  · by_cases h1 : a > row.length
    · simp [h0, h1, oLt, oGt, f0, oLen_tup]
    · rw [if_neg (by simp [h0, h1])]
      obtain ⟨k, rfl⟩ : ∃ k : Nat, a = k := ⟨a.toNat, by omega⟩
      have hk : k ≤ row.length := by omega
      have at1 : L2.atI (notes row (blocks row + 1)) ((k : Int) / 8) = some (.int (ones row (8 * (k / 8)))) := atI_of (k := k / 8) (by omega) (notes_get (by unfold blocks; omega))
      have hd8 : cDiv (k : Int) 8 = true := cDiv_yes (by decide)
      have hm8 : cMul ((k : Int) / 8) 8 = true := cMul_r (by decide)
      have c1 : cutI row (some ((k : Int) / 8 * 8)) (some (k : Int)) = (row.drop (8 * (k / 8))).take (k - 8 * (k / 8)) := by
        have := cutI_nat row (8 * (k / 8)) k
        rw [show (k : Int) / 8 * 8 = ((8 * (k / 8) : Nat) : Int) by omega]
        exact this
      have e0 : (mOr (mTest (mOp oLt (mVar 1) (mC (.int 0)))) (mTest (mOp oGt (mVar 1) (mCall oLen (aCons (mFld 0 0 (mVar 0)) aNil))))) [some (.loc n), some (.int k), none] st = .ok false st := by
        simp [h0, h1, f0, oLen_tup]
      have os := ones_step row (8 * (k / 8)) k (by omega)
      rw [Int.toNat_natCast]
      generalize hys : (row.drop (8 * (k / 8))).take (k - 8 * (k / 8)) = ys at c1 os
      generalize ones row (8 * (k / 8)) = w at at1 os
      rw [← os]
      clear os hys
      have e1 : mSet 2 (mOp oDiv (mVar 1) (mC (.int (8)))) [some (.loc n), some (.int k), none] st = .next [some (.loc n), some (.int k), some (.int ((k : Int) / 8))] st := by
        simp [hd8]
      obtain ⟨z, hz⟩ : ∃ z, z = (k : Int) / 8 := ⟨_, rfl⟩
      rw [← hz] at at1 c1 hm8 e1
      clear hz hd8
      simp [f0, f1, e0, e1, hm8, oSl, c1, oIx_lst hm, at1, -u_mOr, -u_mSet]
/-- where bit b stands -/
def places (row : List Int) (b : Int) (n : Nat) : List Nat := (List.range n).filter fun i => row[i]? == some b
theorem places_succ (row : List Int) (b : Int) (n : Nat) : places row b (n + 1) = places row b n ++ (if row[n]? = some b then [n] else []) := by
  unfold places
  rw [List.range_succ, List.filter_append]
  congr 1
  by_cases h : row[n]? = some b <;> simp [h]
theorem places_pre (row : List Int) (b : Int) {i n : Nat} (h : i ≤ n) : ∃ t, places row b n = places row b i ++ t := by
  induction n with
  | zero => exact ⟨[], by rw [show i = 0 by omega]; simp⟩
  | succ n ih =>
    by_cases e : i = n + 1
    · exact ⟨[], by rw [e]; simp⟩
    · obtain ⟨t, ht⟩ := ih (by omega)
      exact ⟨t ++ (if row[n]? = some b then [n] else []), by rw [places_succ, ht, List.append_assoc]⟩
theorem places_len (row : List Int) (b : Int) (n : Nat) : (places row b n).length ≤ n := Nat.le_trans (List.length_filter_le _ _) (by simp)
def found (row : List Int) (b k : Int) : Option Nat := if k < 0 then none else (places row b row.length)[k.toNat]?
theorem place_ok {st : Store} {n : Nat} {row : List Int} (b : BitsAt st n row) (hl : row.length ≤ 40) (bit k : Int) : F_Bits_place_of [.loc n, .int bit, .int k] st = match found row bit k with | some p => .ok (.int p) st | none => .exc 1 st := by
  obtain ⟨m, hn, hm⟩ := b
  have f0 : ∀ sl : Slots, sl[0]? = some (some (.loc n)) → mFld 0 0 (mVar 0) sl st = .ok (.tup (row.map .int)) st := fun sl h => mFld_of (by simp [h]) hn rfl
  unfold F_Bits_place_of defF b_Bits_place_of
  by_cases h0 : k < 0
  · simp [found, h0, oLt, mRaise]
  · obtain ⟨q, rfl⟩ : ∃ q : Nat, k = q := ⟨k.toNat, by omega⟩
    have loop := forL_exit (t := .one 4) (xs := steps 0 1 row.length) (body := mSeq (mIf (mTest (mOp oEq (mOp oIx (mFld 0 0 (mVar 0)) (mVar 4)) (mVar 1))) (mSeq (mIf (mTest (mOp oEq (mVar 3) (mVar 2))) (mSeq (mRet (mVar 4)) (mEnd)) (mEnd)) (mSeq (mSet 3 (mOp oAdd (mVar 3) (mC (.int 1)))) (mEnd))) (mEnd)) (mEnd))
      (fun i sl s => ∃ y, sl = [some (.loc n), some (.int bit), some (.int q), some (.int ((places row bit i).length : Nat)), y] ∧ s = st ∧ (places row bit i).length ≤ q)
      (fun i o => o = .ret (.int i) st ∧ row[i]? = some bit ∧ (places row bit i).length = q)
      (sl := [some (.loc n), some (.int bit), some (.int q), some (.int 0), none]) (st := st) ⟨none, rfl, rfl, by simp [places]⟩ ?_
    · have hr : iRange (aCons (mCall oLen (aCons (mFld 0 0 (mVar 0)) aNil)) (aNil)) [some (.loc n), some (.int bit), some (.int q), some (.int 0), none] st = .ok (.fix (steps 0 1 row.length)) st := by
        have := iRange_of (a := aCons (mCall oLen (aCons (mFld 0 0 (mVar 0)) aNil)) (aNil)) (sl := [some (.loc n), some (.int bit), some (.int q), some (.int 0), none]) (st := st) (st1 := st) (j := row.length) (by simp [f0, oLen_tup]) (inLine_small (by omega) (by omega))
        rw [this]
        rfl
      have hf := mFor_fix (t := .one 4) (body := mSeq (mIf (mTest (mOp oEq (mOp oIx (mFld 0 0 (mVar 0)) (mVar 4)) (mVar 1))) (mSeq (mIf (mTest (mOp oEq (mVar 3) (mVar 2))) (mSeq (mRet (mVar 4)) (mEnd)) (mEnd)) (mSeq (mSet 3 (mOp oAdd (mVar 3) (mC (.int 1)))) (mEnd))) (mEnd)) (mEnd)) hr
      rcases loop with ⟨sl', st', e, y, rfl, rfl, hle⟩ | ⟨i, hi, e, hb, hc⟩
      · rw [e] at hf
        rw [steps_length] at hle
        have hnone : found row bit q = none := by
          unfold found
          rw [if_neg h0]
          exact List.getElem?_eq_none (by simpa using hle)
        simp [h0, oLt, hf, hnone, mRaise]
      · rw [steps_length] at hi
        have hsome : found row bit q = some i := by
          unfold found
          rw [if_neg h0]
          obtain ⟨t, ht⟩ := places_pre row bit (i := i + 1) (n := row.length) hi
          rw [ht, places_succ, if_pos hb, Int.toNat_natCast, ← hc]
          simp
        rw [e] at hf
        simp [h0, oLt, hf, hsome]
    · rintro i x sl s hx ⟨y, rfl, rfl, hle⟩
      obtain ⟨hi, rfl⟩ := steps_get hx
      refine ⟨_, rfl, ?_⟩
      rw [Int.mul_one, Int.zero_add]
      obtain ⟨w, hw⟩ : ∃ w, row[i]? = some w := ⟨_, List.getElem?_eq_getElem hi⟩
      have at1 : L2.atI (row.map IV.int) (i : Int) = some (.int w) := atI_of (k := i) rfl (by rw [List.getElem?_map, hw]; rfl)
      by_cases hb : w = bit
      · subst hb
        by_cases hq : (places row w i).length = q
        · refine .inr ⟨_, rfl, ?_⟩
          simp [f0, oIx_tup, at1, hq, hw, Out.leaves]
        · have hq2 : ¬ (((places row w i).length : Nat) : Int) = ((q : Nat) : Int) := by omega
          refine .inl ⟨_, s, .inl ?_, some (.int i), rfl, rfl, ?_⟩
          · simp [f0, oIx_tup, at1, hq2, places_succ, hw]
          · rw [places_succ, if_pos hw, List.length_append]
            simp
            omega
      · refine .inl ⟨_, s, .inl ?_, some (.int i), rfl, rfl, ?_⟩
        · simp [f0, oIx_tup, at1, hb, places_succ, hw]
        · rw [places_succ, if_neg (by rw [hw]; simpa using hb)]
          simpa using hle

theorem one_ok {st : Store} {n : Nat} {row : List Int} (b : BitsAt st n row) (hl : row.length ≤ 40) (k : Int) : F_Bits_place_of_one [.loc n, .int k] st = match found row 1 k with | some p => .ok (.int p) st | none => .exc 1 st := by
  have h := place_ok b hl 1 k
  obtain ⟨m, hn, hm⟩ := b
  have i1 := isIns_of hn
  unfold F_Bits_place_of_one defF b_Bits_place_of_one
  simp [arity, i1, h]
  cases found row 1 k <;> simp
theorem zero_ok {st : Store} {n : Nat} {row : List Int} (b : BitsAt st n row) (hl : row.length ≤ 40) (k : Int) : F_Bits_place_of_zero [.loc n, .int k] st = match found row 0 k with | some p => .ok (.int p) st | none => .exc 1 st := by
  have h := place_ok b hl 0 k
  obtain ⟨m, hn, hm⟩ := b
  have i1 := isIns_of hn
  unfold F_Bits_place_of_zero defF b_Bits_place_of_zero
  simp [arity, i1, h]
  cases found row 0 k <;> simp
/-- what the law is told -/
def told (row : List Int) (w k : Int) : IV := if w = 0 then (if k < 0 ∨ k > row.length then .non else .int (ones row k.toNat)) else match found row (if w = 1 then 1 else 0) k with | some p => .int p | none => .non
theorem told_ok {st : Store} {n : Nat} {row : List Int} (b : BitsAt st n row) (hl : row.length ≤ 40) (w k : Int) : F_law_told [.loc n, .int w, .int k] st = .ok (told row w k) st := by
  have h0 := ones_ok b hl k
  have h1 := one_ok b hl k
  have h2 := zero_ok b hl k
  obtain ⟨m, hn, hm⟩ := b
  have i1 := isIns_of hn
  have c1 : catch_RangeError 1 = true := rfl
  unfold F_law_told defF b_law_told told
  by_cases w0 : w = 0
  · subst w0
    by_cases hk : k < 0 ∨ k > row.length
    · rw [if_pos hk] at h0
      simp [arity, i1, h0, mTry, c1, noExc, hk]
    · rw [if_neg hk] at h0
      simp [arity, i1, h0, mTry, c1, noExc, hk]
  · by_cases w1 : w = 1
    · subst w1
      cases hf : found row 1 k <;> rw [hf] at h1 <;> simp [arity, i1, h1, mTry, c1, noExc, hf]
    · cases hf : found row 0 k <;> rw [hf] at h2 <;> simp [arity, i1, w0, w1, h2, mTry, c1, noExc, hf]
theorem int_ok (z : Int) (st : Store) : F_law_int [.int z] st = .ok (.bl true) st := by
  simp [F_law_int, defF, b_law_int, oIsi]
end My

set_option Elab.async false
set_option linter.all false
set_option maxRecDepth 100000
set_option maxHeartbeats 4000000
namespace My
open Mi

def bits01 (row : List Int) : Prop := ∀ x ∈ row, x = 0 ∨ x = 1
def flip (row : List Int) : List Int := row.map fun x => 1 - x
theorem ones_succ {row : List Int} {n : Nat} {w : Int} (h : row[n]? = some w) : ones row (n + 1) = ones row n + w := by
  unfold ones
  rw [List.take_add_one, h, List.sum_append]
  simp
theorem ones_flip (row : List Int) (n : Nat) (h : n ≤ row.length) : ones (flip row) n = n - ones row n := by
  induction n with
  | zero => simp [ones]
  | succ n ih =>
    obtain ⟨w, hw⟩ : ∃ w, row[n]? = some w := ⟨_, List.getElem?_eq_getElem h⟩
    rw [ones_succ hw, ones_succ (row := flip row) (w := 1 - w) (by simp [flip, hw]), ih (by omega)]
    omega
theorem places_flip {row : List Int} (b : Int) : places (flip row) (1 - b) row.length = places row b row.length := by
  unfold places
  refine List.filter_congr fun i hi => ?_
  cases h : row[i]? with
  | none => simp [flip, h]
  | some w =>
    by_cases e : w = b
    · simp [flip, h, e]
    · have : ¬ (1 - w = 1 - b) := by omega
      simp [flip, h, beq_eq_false_iff_ne.mpr this, beq_eq_false_iff_ne.mpr e]
theorem found_flip (row : List Int) (b k : Int) : found (flip row) (1 - b) k = found row b k := by
  unfold found
  rw [show (flip row).length = row.length by simp [flip], places_flip]

theorem make_ok (row : List Int) (h : row.length ≤ 40) {a : MA} {sl : Slots} {st st1 : Store} (ha : a sl st = .ok [.tup (row.map .int)] st1) : mMake 0 2 F_Bits_init a sl st = .ok (.loc st1.length) (st1 ++ [.ins 0 [(0, .tup (row.map .int)), (1, .loc (st1.length + 1))]] ++ [.lst (notes row (blocks row + 1))]) := by
  unfold mMake
  rw [ha, Res.andThen_ok]
  simp only [arity, List.length_cons, List.length_nil, if_true]
  rw [init_ok row h st1]
  rfl
/-- the world of the law behind its start -/
structure BWorld (S : Store) (row : List Int) : Prop where
  len : row.length ≤ 40
  b : bits01 row
  r : S[2]? = some (.lst (row.map .int))
  b3 : BitsAt S 3 row
  b5 : BitsAt S 5 (flip row)
theorem BWorld.more {S : Store} {row : List Int} (w : BWorld S row) (l : Store) : BWorld (S ++ l) row :=
  ⟨w.len, w.b, by rw [List.getElem?_append_left (List.getElem?_eq_some_iff.mp w.r).1]; exact w.r, w.b3.more, w.b5.more⟩
theorem BWorld.t3 {S : Store} {row : List Int} (w : BWorld S row) (x k : Int) : F_law_told [.loc 3, .int x, .int k] S = .ok (told row x k) S := told_ok w.b3 w.len x k
theorem BWorld.t5 {S : Store} {row : List Int} (w : BWorld S row) (x k : Int) : F_law_told [.loc 5, .int x, .int k] S = .ok (told (flip row) x k) S := told_ok w.b5 (by simp [flip]; exact w.len) x k
theorem told_in {row : List Int} {n : Nat} (h : n ≤ row.length) : told row 0 n = .int (ones row n) := by
  unfold told
  rw [if_pos rfl, if_neg (by omega), Int.toNat_natCast]
theorem told_out {row : List Int} {k : Int} (h : k < 0 ∨ k > row.length) : told row 0 k = .non := by
  unfold told
  rw [if_pos rfl, if_pos h]
theorem told_w {row : List Int} {w : Int} (h : w = 1 ∨ w = 2) (k : Int) : told row w k = match found row (2 - w) k with | some p => .int p | none => .non := by
  unfold told
  rcases h with rfl | rfl <;> rfl
theorem told_wf {row : List Int} {w : Int} (h : w = 1 ∨ w = 2) (k : Int) : told (flip row) (3 - w) k = match found row (2 - w) k with | some p => .int p | none => .non := by
  rw [told_w (by omega), show (2 - (3 - w)) = 1 - (2 - w) by omega, found_flip]
theorem found_in {row : List Int} {b : Int} {k p : Nat} (h : (places row b row.length)[k]? = some p) : found row b k = some p := by
  unfold found
  rw [if_neg (by omega), Int.toNat_natCast, h]
theorem found_end (row : List Int) (b : Int) : found row b ((places row b row.length).length : Nat) = none := by
  unfold found
  rw [if_neg (by omega), Int.toNat_natCast]
  simp
theorem found_neg (row : List Int) (b : Int) : found row b (-1) = none := by
  unfold found
  rw [if_pos (by omega)]
theorem sumcut {S : Store} {row : List Int} (W : BWorld S row) {sl : Slots} {i : Nat} (h3 : sl[3]? = some (some (.loc 2))) (h8 : sl[8]? = some (some (.int i))) : mCall oSum (aCons (mSl (mVar 3) (mNoPart) (mPart (mVar 8))) (aNil)) sl S = .ok (.int (ones row i)) S := by
  have s : mSl (mVar 3) (mNoPart) (mPart (mVar 8)) sl S = .ok (.loc S.length) (S ++ [.lst ((row.take i).map .int)]) := by
    simp only [u_mSl, u_mVar, h3, h8, u_mNoPart, u_mPart, Res.andThen_ok, oSl, W.r, cutI_mapf, cutI_to]
    rw [gcV_loc (Nat.le_refl _), List.map_take]
  rw [u_mCall, u_aCons, s, Res.andThen_ok, u_aNil, Res.andThen_ok, Res.andThen_ok, oSum_lst List.getElem?_concat_length, calmR_ok, gcV_new rfl]
  rfl
theorem law_true (ns : List Int) (h : ns.length ≤ 63) : ∃ st, F_law [.ro (ns.map .int)] [] = .ok (.bl true) st := by
  refine defF_true ?_
  show ∃ st, b_law [some (.ro (ns.map .int)), none, none, none, none, none, none, none, none, none, none, none, none] [] = .ret (.bl true) st
  unfold b_law
  obtain ⟨s0, hb, d0⟩ := begin_ok ns h
  have hb' : F_law_begin [.ro (ns.map .int)] [] = .ok (.loc 1) (dSt ns 0 0 s0) := hb
  refine q_set (P := fun o => ∃ st, o = .ret (.bl true) st) (v := .loc 1) (st1 := dSt ns 0 0 s0) ?_ ?_
  · simp [arity, hb']
    exact gcV_loc (by simp)
  obtain ⟨menu, p, r, s, e1, d1, -, -⟩ := draw (F := F_law_take) (l := []) (sl := [some (.ro (ns.map .int)), some (.loc 1), none, none, none, none, none, none, none, none, none, none, none]) (a := aCons (mVar 1) (aCons (mC (.int 4)) (aNil))) (S := dSt ns 0 0 s0) rfl d0 rfl (m := 4) (by decide) (by decide) (by simp)
  refine q_set (P := fun o => ∃ st, o = .ret (.bl true) st) (v := .int menu) e1 ?_
  clear e1 hb hb' d0 s0
  have row : ∃ p' r' s' row, mLc (iRange (aCons (mDef 2 F_law_take (aCons (mVar 1) (aCons (mC (.int 41)) (aNil)))) (aNil))) (.one 4) [4] (mYes) (mIfE (mTest (mOp oEq (mVar 2) (mC (.int 1)))) (mC (.int 1)) (mIfE (mTest (mOp oEq (mVar 2) (mC (.int 2)))) (mC (.int 0)) (mDef 2 F_law_take (aCons (mVar 1) (aCons (mC (.int 2)) (aNil))))))
      [some (.ro (ns.map .int)), some (.loc 1), some (.int menu), none, none, none, none, none, none, none, none, none, none] (dSt ns p r s ++ []) = .ok (.loc 2) (dSt ns p' r' s' ++ [.lst (row.map .int)]) ∧ row.length ≤ 40 ∧ bits01 row := by
    obtain ⟨N, p1, r1, s1, e2, d2, n0, n1⟩ := draw (F := F_law_take) (l := []) (sl := [some (.ro (ns.map .int)), some (.loc 1), some (.int menu), none, none, none, none, none, none, none, none, none, none]) (a := aCons (mVar 1) (aCons (mC (.int 41)) (aNil))) (S := dSt ns p r s ++ []) rfl d1 rfl (m := 41) (by decide) (by decide) (by simp)
    rw [mLc_fix rfl (iRange_of (j := N) (st1 := dSt ns p1 r1 s1 ++ []) (by rw [u_aCons, e2]; rfl) (inLine_small (by omega) (by omega)))]
    obtain ⟨base, acc, e3, hl, p2, r2, s2, row, rfl, d3, rfl, hlen, hbits⟩ := lcL_ind (t := .one 4) (d := (dSt ns p1 r1 s1 ++ []).length) (sl0 := wipeS [some (.ro (ns.map .int)), some (.loc 1), some (.int menu), none, none, none, none, none, none, none, none, none, none] [4]) (xs := steps 0 1 N.toNat)
      (test := mYes) (elt := mIfE (mTest (mOp oEq (mVar 2) (mC (.int 1)))) (mC (.int 1)) (mIfE (mTest (mOp oEq (mVar 2) (mC (.int 2)))) (mC (.int 0)) (mDef 2 F_law_take (aCons (mVar 1) (aCons (mC (.int 2)) (aNil))))))
      (fun i base acc => ∃ p r s row, base = dSt ns p r s ++ [] ∧ dOk ns p r s ∧ acc = row.map IV.int ∧ row.length = i ∧ bits01 row) rfl ⟨p1, r1, s1, [], rfl, d2, rfl, rfl, fun _ h => nomatch h⟩ (by
        rintro i x base acc hx hd ⟨p, r, s, row, rfl, d, rfl, rfl, hbits⟩
        obtain ⟨hi, rfl⟩ := steps_get hx
        refine ⟨_, rfl, true, dSt ns p r s ++ [], rfl, hd, (fun h => nomatch h), fun _ => ⟨by rw [List.length_map]; omega, ?_⟩⟩
        have ext : ∀ z : Int, (z = 0 ∨ z = 1) → bits01 (row ++ [z]) := fun z hz x hx => by
          rcases List.mem_append.mp hx with hx | hx
          · exact hbits x hx
          · rw [List.mem_singleton.mp hx]; exact hz
        by_cases m1 : menu = 1
        · refine ⟨.int 1, dSt ns p r s ++ [], ?_, hd, p, r, s, row ++ [1], rfl, d, by simp, by simp, ext 1 (.inr rfl)⟩
          simp [wipeS, m1]
        · by_cases m2 : menu = 2
          · refine ⟨.int 0, dSt ns p r s ++ [], ?_, hd, p, r, s, row ++ [0], rfl, d, by simp, by simp, ext 0 (.inl rfl)⟩
            simp [wipeS, m1, m2]
          · obtain ⟨v, p3, r3, s3, e4, d4, v0, v1⟩ := draw (F := F_law_take) (l := [.lst (row.map .int)]) (sl := [some (.ro (ns.map .int)), some (.loc 1), some (.int menu), none, some (.int (0 + (row.length : Nat) * 1)), none, none, none, none, none, none, none, none]) (a := aCons (mVar 1) (aCons (mC (.int 2)) (aNil))) (S := dSt ns p r s ++ [.lst (row.map .int)]) rfl d rfl (m := 2) (by decide) (by decide) (by simp)
            refine ⟨.int v, dSt ns p3 r3 s3 ++ [], ?_, by rw [hd]; simp [dSt], p3, r3, s3, row ++ [v], rfl, d4, by simp, by simp, ext v (by omega)⟩
            simp [wipeS, m1, m2, -u_mDef]
            exact e4)
    refine ⟨p2, r2, s2, row, ?_, by rw [hlen, steps_length]; omega, hbits⟩
    rw [e3]
    simp [dSt]
  obtain ⟨p', r', s', row, e2, hlen, hbits⟩ := row
  refine q_set (P := fun o => ∃ st, o = .ret (.bl true) st) e2 ?_
  clear e2 d1
  obtain ⟨D, hD, hD2⟩ : ∃ D : Store, D = dSt ns p' r' s' ++ [.lst (row.map .int)] ∧ D.length = 3 := ⟨_, rfl, by simp [dSt]⟩
  have hr : D[2]? = some (.lst (row.map .int)) := by rw [hD]; rfl
  rw [← hD]
  clear hD
  have m1 : mMake 0 2 F_Bits_init (aCons (mCall oTuple (aCons (mVar 3) (aNil))) (aNil)) [some (.ro (ns.map .int)), some (.loc 1), some (.int menu), some (.loc 2), none, none, none, none, none, none, none, none, none] D = .ok (.loc 3) (D ++ [.ins 0 [(0, .tup (row.map .int)), (1, .loc 4)]] ++ [.lst (notes row (blocks row + 1))]) := by
    rw [make_ok row hlen (a := aCons (mCall oTuple (aCons (mVar 3) (aNil))) (aNil)) (st1 := D) (by simp [oTuple_lst hr])]
    rw [hD2]
  refine q_set (P := fun o => ∃ st, o = .ret (.bl true) st) m1 ?_
  clear m1
  obtain ⟨E, hE, hE2, hE3, hEr⟩ : ∃ E : Store, E = D ++ [.ins 0 [(0, .tup (row.map .int)), (1, .loc 4)]] ++ [.lst (notes row (blocks row + 1))] ∧ E.length = 5 ∧ BitsAt E 3 row ∧ E[2]? = some (.lst (row.map .int)) :=
    ⟨_, rfl, by simp [hD2], ⟨4, by simp [hD2], by simp [hD2]⟩, by rw [List.getElem?_append_left (by simp; omega), List.getElem?_append_left (by omega)]; exact hr⟩
  rw [← hE]
  clear hE hr hD2
  have fl : mCall oTuple (aCons (mLc (iVal (mVar 3)) (.one 7) [7] (mYes) (mOp oSub (mC (.int 1)) (mVar 7))) (aNil)) [some (.ro (ns.map .int)), some (.loc 1), some (.int menu), some (.loc 2), none, some (.loc 3), none, none, none, none, none, none, none] E = .ok (.tup ((flip row).map .int)) E := by
    rw [u_mCall, u_aCons]
    rw [mLc_list (n := 2) (xs := row.map .int) (base := E) (fun _ => true) (fun x => match x with | .int i => .int (1 - i) | v => v) (by simp; omega) rfl (iVal_lst (by simp) hEr) hEr (by
      intro x acc hx
      obtain ⟨i, _, rfl⟩ := List.mem_map.mp hx
      exact ⟨_, rfl, rfl, fun _ => by simp [wipeS]⟩)]
    simp only [Res.andThen_ok, u_aNil]
    rw [oTuple_lst List.getElem?_concat_length, calmR_ok]
    have : ((row.map IV.int).filter fun _ => true).map (fun x => match x with | IV.int i => IV.int (1 - i) | v => v) = (flip row).map .int := by
      rw [List.filter_eq_self.mpr (fun _ _ => rfl), flip, List.map_map, List.map_map]
      rfl
    rw [this, gcV_new (by simp)]
  have m2 : mMake 0 2 F_Bits_init (aCons (mCall oTuple (aCons (mLc (iVal (mVar 3)) (.one 7) [7] (mYes) (mOp oSub (mC (.int 1)) (mVar 7))) (aNil))) (aNil)) [some (.ro (ns.map .int)), some (.loc 1), some (.int menu), some (.loc 2), none, some (.loc 3), none, none, none, none, none, none, none] E = .ok (.loc 5) (E ++ [.ins 0 [(0, .tup ((flip row).map .int)), (1, .loc 6)]] ++ [.lst (notes (flip row) (blocks (flip row) + 1))]) := by
    rw [make_ok (flip row) (by simp [flip]; exact hlen) (a := aCons (mCall oTuple (aCons (mLc (iVal (mVar 3)) (.one 7) [7] (mYes) (mOp oSub (mC (.int 1)) (mVar 7))) (aNil))) (aNil)) (st1 := E) (by rw [u_aCons, fl]; rfl)]
    rw [hE2]
  refine q_set (P := fun o => ∃ st, o = .ret (.bl true) st) m2 ?_
  clear m2 fl
  obtain ⟨S, hS, W⟩ : ∃ S : Store, S = E ++ [.ins 0 [(0, .tup ((flip row).map .int)), (1, .loc 6)]] ++ [.lst (notes (flip row) (blocks (flip row) + 1))] ∧ BWorld S row :=
    ⟨_, rfl, hlen, hbits, by rw [List.getElem?_append_left (by simp; omega), List.getElem?_append_left (by omega)]; exact hEr, by rw [List.append_assoc]; exact hE3.more, ⟨6, by simp [hE2], by simp [hE2]⟩⟩
  rw [← hS]
  clear hS hE2 hE3 hEr
  show ∃ st, _ = Out.ret (.bl true) st
  obtain ⟨L, hL⟩ : ∃ L : Int, L = row.length := ⟨_, rfl⟩
  have len3 : mAlt (mCall oLen (aCons (mVar 5) aNil)) (mLenOwn 0 F_Bits_len (mVar 5)) [some (.ro (ns.map .int)), some (.loc 1), some (.int menu), some (.loc 2), none, some (.loc 3), some (.loc 5), none, none, none, none, none, none] S = .ok (.int row.length) S := by
    obtain ⟨m, hn, hm⟩ := W.b3
    have i1 := isIns_of hn
    have lb := len_ok W.b3
    have b1 : oLen [.loc 3] S = .bad := by simp [oLen, seqOf, hn]
    rw [mAlt_r (by simp [b1])]
    exact mLenOwn_of (n := 3) (by simp) i1 lb (by omega) (by omega)
  simp only [List.set_cons_zero, List.set_cons_succ]
  refine q_no (P := fun o => ∃ st, o = .ret (.bl true) st) (st1 := S) ?_ ?_
  · rw [u_mTest, u_mOp]
    show gcB S (Res.andThen (gcV S (Res.andThen (mAlt _ _ _ S) _)) _) = _
    rw [len3]
    simp [oLen_lst W.r]
  refine q_for (P := fun o => ∃ st, o = .ret (.bl true) st) (fun i sl st => ∃ y8 y9, sl = [some (.ro (ns.map .int)), some (.loc 1), some (.int menu), some (.loc 2), none, some (.loc 3), some (.loc 5), none, y8, y9, none, none, none] ∧ st = S)
    (iRange_of (j := (row.length + 1 : Nat)) (st1 := S) (by simp [oLen_lst W.r]) (inLine_small (by omega) (by omega))) ⟨none, none, rfl, rfl⟩ ?_ ?_
  · rintro i x sl st hx ⟨y8, y9, rfl, rfl⟩
    obtain ⟨hi, rfl⟩ := steps_get hx
    rw [Int.toNat_natCast] at hi
    rw [Int.mul_one, Int.zero_add]
    refine ⟨_, rfl, _, st, .inl ?_, some (.int i), some (.int (ones row i)), rfl, rfl⟩
    have t3 := W.t3 0 i
    have t5 := W.t5 0 i
    rw [told_in (by omega)] at t3
    rw [told_in (by simp [flip]; omega), ones_flip row i (by omega)] at t5
    have sc := sumcut W (sl := [some (.ro (ns.map .int)), some (.loc 1), some (.int menu), some (.loc 2), none, some (.loc 3), some (.loc 5), none, some (.int i), some (.int (ones row i)), none, none, none]) (i := i) rfl rfl
    generalize (i : Int) = z at *
    generalize ones row i = w at *
    have a1 : mSet 9 (mDef 3 F_law_told (aCons (mVar 5) (aCons (mC (.int 0)) (aCons (mVar 8) (aNil))))) [some (.ro (ns.map .int)), some (.loc 1), some (.int menu), some (.loc 2), none, some (.loc 3), some (.loc 5), none, some (.int z), y9, none, none, none] st = .next [some (.ro (ns.map .int)), some (.loc 1), some (.int menu), some (.loc 2), none, some (.loc 3), some (.loc 5), none, some (.int z), some (.int w), none, none, none] st := by
      simp [arity, t3]
    have a2 : (mOr (mNot (mTest (mDef 1 F_law_int (aCons (mVar 9) (aNil))))) (mOr (mTest (mOp oNe (mVar 9) (mCall oSum (aCons (mSl (mVar 3) (mNoPart) (mPart (mVar 8))) (aNil))))) (mTest (mOp oNe (mDef 3 F_law_told (aCons (mVar 6) (aCons (mC (.int 0)) (aCons (mVar 8) (aNil))))) (mOp oSub (mVar 8) (mVar 9)))))) [some (.ro (ns.map .int)), some (.loc 1), some (.int menu), some (.loc 2), none, some (.loc 3), some (.loc 5), none, some (.int z), some (.int w), none, none, none] st = .ok false st := by
      simp [arity, int_ok, sc, t5, -u_mCall]
    simp [a1, a2, -u_mSet, -u_mOr]
  · rintro sl st ⟨y8, y9, rfl, rfl⟩
    refine q_for (P := fun o => ∃ st, o = .ret (.bl true) st) (fun i sl s => ∃ y8 y9 y4 y10 y11 l, sl = [some (.ro (ns.map .int)), some (.loc 1), some (.int menu), some (.loc 2), y4, some (.loc 3), some (.loc 5), none, y8, y9, y10, y11, none] ∧ s = st ++ l)
      (iVal_tup (xs := [.int 1, .int 2]) (st1 := st) (by simp [tooLong_no])) ⟨y8, y9, none, none, none, [], rfl, by simp⟩ ?_ ?_
    · rintro i x sl s hx ⟨y8, y9, y4, y10, y11, l, rfl, rfl⟩
      obtain ⟨w, rfl, hw⟩ : ∃ w, x = .int w ∧ (w = 1 ∨ w = 2) := by
        have := List.mem_of_getElem? hx
        simp at this
        rcases this with rfl | rfl
        · exact ⟨1, rfl, .inl rfl⟩
        · exact ⟨2, rfl, .inr rfl⟩
      clear hx
      refine ⟨_, rfl, ?_⟩
      have W2 := W.more l
      clear W
      generalize hs : st ++ l = S at W2 ⊢
      have hc : mLc (iRange (aCons (mCall oLen (aCons (mVar 3) aNil)) (aNil))) (.one 12) [12] (mTest (mOp oEq (mOp oIx (mVar 3) (mVar 12)) (mOp oSub (mC (.int 2)) (mVar 10)))) (mVar 12) [some (.ro (ns.map .int)), some (.loc 1), some (.int menu), some (.loc 2), y4, some (.loc 3), some (.loc 5), none, y8, y9, some (.int w), y11, none] S = .ok (.loc S.length) (S ++ [.lst ((places row (2 - w) row.length).map fun p => .int (p : Nat))]) := by
        have hir := iRange_of (a := aCons (mCall oLen (aCons (mVar 3) aNil)) (aNil)) (sl := [some (.ro (ns.map .int)), some (.loc 1), some (.int menu), some (.loc 2), y4, some (.loc 3), some (.loc 5), none, y8, y9, some (.int w), y11, none]) (j := (row.length : Nat)) (st := S) (st1 := S) (by simp [oLen_lst W2.r]) (inLine_small (by omega) (by omega))
        rw [mLc_still (fun x => match x with | .int p => row[p.toNat]? == some (2 - w) | _ => false) id (by rw [steps_length, Int.toNat_natCast]; omega) rfl hir ?_]
        · congr 3
          rw [Int.toNat_natCast, List.map_id, steps, List.filter_map, places]
          rw [show (fun k : Nat => IV.int (0 + (k : Int) * 1)) = fun p : Nat => IV.int (p : Int) from by funext k; simp]
          congr 1
        · intro x acc hx
          obtain ⟨p, hp⟩ := List.getElem?_of_mem hx
          obtain ⟨hi, rfl⟩ := steps_get hp
          rw [Int.toNat_natCast] at hi
          rw [Int.mul_one, Int.zero_add]
          have l2 := (List.getElem?_eq_some_iff.mp W2.r).1
          have r2 : (S ++ [Cell.lst acc])[2]? = some (.lst (row.map .int)) := by rw [List.getElem?_append_left l2]; exact W2.r
          obtain ⟨v, hv⟩ : ∃ v, row[p]? = some v := ⟨_, List.getElem?_eq_getElem hi⟩
          have at1 : L2.atI (row.map IV.int) (p : Int) = some (.int v) := atI_of (k := p) rfl (by rw [List.getElem?_map, hv]; rfl)
          refine ⟨_, rfl, ?_, fun _ => by simp [wipeS]⟩
          simp [wipeS, oIx_lst r2, at1, hv]
          rfl
      refine q_set (P := fun o => ∃ sl2 st2, (o = Out.next sl2 st2 ∨ o = Out.cont sl2 st2) ∧ ∃ y8 y9 y4 y10 y11 l, sl2 = [some (.ro (ns.map .int)), some (.loc 1), some (.int menu), some (.loc 2), y4, some (.loc 3), some (.loc 5), none, y8, y9, y10, y11, none] ∧ st2 = st ++ l) hc ?_
      clear hc
      simp only [List.set_cons_zero, List.set_cons_succ]
      obtain ⟨T, hT⟩ : ∃ T, T = S ++ [.lst ((places row (2 - w) row.length).map fun p => .int (p : Nat))] := ⟨_, rfl⟩
      have hT2 : T[S.length]? = some (.lst ((places row (2 - w) row.length).map fun p => .int (p : Nat))) := by rw [hT]; exact List.getElem?_concat_length
      have W3 : BWorld T row := hT ▸ W2.more _
      have hTl : ∃ l, T = st ++ l := ⟨_, by rw [hT, ← hs, List.append_assoc]⟩
      rw [← hT]
      have pl := places_len row (2 - w) row.length
      refine q_for (P := fun o => ∃ sl2 st2, (o = Out.next sl2 st2 ∨ o = Out.cont sl2 st2) ∧ ∃ y8 y9 y4 y10 y11 l, sl2 = [some (.ro (ns.map .int)), some (.loc 1), some (.int menu), some (.loc 2), y4, some (.loc 3), some (.loc 5), none, y8, y9, y10, y11, none] ∧ st2 = st ++ l) (fun i sl s => ∃ y4, sl = [some (.ro (ns.map .int)), some (.loc 1), some (.int menu), some (.loc 2), y4, some (.loc 3), some (.loc 5), none, y8, y9, some (.int w), some (.loc S.length), none] ∧ s = T)
        (iRange_of (j := ((places row (2 - w) row.length).length : Nat)) (st1 := T) (by simp [oLen_lst hT2]) (inLine_small (by omega) (by omega))) ⟨y4, rfl, rfl⟩ ?_ ?_
      · rintro k x sl s hx ⟨y4, rfl, rfl⟩
        obtain ⟨hk, rfl⟩ := steps_get hx
        rw [Int.toNat_natCast] at hk
        rw [Int.mul_one, Int.zero_add]
        obtain ⟨q, hq⟩ : ∃ q, (places row (2 - w) row.length)[k]? = some q := ⟨_, List.getElem?_eq_getElem hk⟩
        have t3 : F_law_told [.loc 3, .int w, .int k] s = .ok (.int q) s := by rw [W3.t3 w k, told_w hw, found_in hq]
        have t5 : F_law_told [.loc 5, .int (3 - w), .int k] s = .ok (.int q) s := by rw [W3.t5 (3 - w) k, told_wf hw, found_in hq]
        have at1 : L2.atI ((places row (2 - w) row.length).map fun p => IV.int (p : Nat)) (k : Int) = some (.int q) := atI_of (k := k) rfl (by rw [List.getElem?_map, hq]; rfl)
        refine ⟨_, rfl, _, s, .inl ?_, some (.int k), rfl, rfl⟩
        clear hx
        generalize (k : Int) = z at *
        generalize (q : Int) = v at *
        simp [arity, t3, t5, oIx_lst hT2, at1]
      · rintro sl s ⟨y4, rfl, rfl⟩
        have t1 := W3.t3 w (-1)
        have t2 := W3.t3 w ((places row (2 - w) row.length).length : Nat)
        rw [told_w hw, found_neg] at t1
        rw [told_w hw, found_end] at t2
        have ln : oLen [.loc S.length] s = .ok (.int ((places row (2 - w) row.length).length : Nat)) s := by
          rw [oLen_lst hT2, List.length_map]
        obtain ⟨l, hl⟩ := hTl
        refine q_no (P := fun o => ∃ sl2 st2, (o = Out.next sl2 st2 ∨ o = Out.cont sl2 st2) ∧ ∃ y8 y9 y4 y10 y11 l, sl2 = [some (.ro (ns.map .int)), some (.loc 1), some (.int menu), some (.loc 2), y4, some (.loc 3), some (.loc 5), none, y8, y9, y10, y11, none] ∧ st2 = st ++ l) (st1 := s) ?_ ⟨_, _, .inl rfl, y8, y9, y4, some (.int w), some (.loc S.length), l, rfl, hl⟩
        generalize ((places row (2 - w) row.length).length : Int) = z at *
        simp [arity, t1, t2, ln]
    · rintro sl s ⟨y8, y9, y4, y10, y11, l, rfl, rfl⟩
      have t1 := (W.more l).t3 0 (-1)
      have t2 := (W.more l).t3 0 (row.length + 1)
      rw [told_out (by omega)] at t1
      rw [told_out (by omega)] at t2
      have ln : oLen [.loc 2] (st ++ l) = .ok (.int row.length) (st ++ l) := oLen_lst (xs := row.map .int) (W.more l).r ▸ by simp
      generalize st ++ l = S at *
      generalize (row.length : Int) = z at *
      refine q_ret (P := fun o => ∃ st, o = .ret (.bl true) st) (v := .bl true) (st1 := S) ?_ ⟨_, rfl⟩
      simp [arity, t1, t2, ln]
end My

set_option Elab.async false
set_option linter.all false
set_option maxRecDepth 100000
set_option maxHeartbeats 4000000
namespace My
open PySem PySem.Spec PyProof.Rows L2 Mi
theorem all_mk {l : PySem.W.OpenLaw} {w : World} {K : PySem.W.Frag} {h : Heap} {mg : Str → Option Value} {fa : Addr} (X : K.In h) (G : h.Ns mainGlobals mg) (hfa : mg "law" = some (.ref fa))
    {tk_BLOCK : Tok} {E0 : Addr} {E1 : Addr} {C0 : Addr} {f0 : Addr} {od0 an0 : Option Addr} {sl0 : Array (Option Value)} {oc0 kV0 dc0 pm0 cd0 ct0 : Value} {f1 : Addr} {od1 an1 : Option Addr} {sl1 : Array (Option Value)} {oc1 kV1 dc1 pm1 cd1 ct1 : Value} {f2 : Addr} {od2 an2 : Option Addr} {sl2 : Array (Option Value)} {oc2 kV2 dc2 pm2 cd2 ct2 : Value} {f3 : Addr} {od3 an3 : Option Addr} {sl3 : Array (Option Value)} {oc3 kV3 dc3 pm3 cd3 ct3 : Value} {f4 : Addr} {od4 an4 : Option Addr} {sl4 : Array (Option Value)} {oc4 kV4 dc4 pm4 cd4 ct4 : Value} {f5 : Addr} {od5 an5 : Option Addr} {sl5 : Array (Option Value)} {oc5 kV5 dc5 pm5 cd5 ct5 : Value} {f6 : Addr} {od6 an6 : Option Addr} {sl6 : Array (Option Value)} {oc6 kV6 dc6 pm6 cd6 ct6 : Value} {f7 : Addr} {od7 an7 : Option Addr} {sl7 : Array (Option Value)} {oc7 kV7 dc7 pm7 cd7 ct7 : Value} {f8 : Addr} {od8 an8 : Option Addr} {sl8 : Array (Option Value)} {oc8 kV8 dc8 pm8 cd8 ct8 : Value} {f9 : Addr} {od9 an9 : Option Addr} {sl9 : Array (Option Value)} {oc9 kV9 dc9 pm9 cd9 ct9 : Value} {f10 : Addr} {od10 an10 : Option Addr} {sl10 : Array (Option Value)} {oc10 kV10 dc10 pm10 cd10 ct10 : Value}
    (z_abs : PySem.W.nsIn K mainGlobals "abs" = some none)
    (z_bool : PySem.W.nsIn K mainGlobals "bool" = some none)
    (z_int : PySem.W.nsIn K mainGlobals "int" = some none)
    (z_isinstance : PySem.W.nsIn K mainGlobals "isinstance" = some none)
    (z_len : PySem.W.nsIn K mainGlobals "len" = some none)
    (z_list : PySem.W.nsIn K mainGlobals "list" = some none)
    (z_range : PySem.W.nsIn K mainGlobals "range" = some none)
    (z_sum : PySem.W.nsIn K mainGlobals "sum" = some none)
    (z_tuple : PySem.W.nsIn K mainGlobals "tuple" = some none)
    (k_BLOCK : PySem.W.nsIn K mainGlobals "BLOCK" = some (some (.int (8) tk_BLOCK)))
    (aE0 : PySem.W.nsIn K mainGlobals "ShardError" = some (some (.ref E0)))
    (aE1 : PySem.W.nsIn K mainGlobals "RangeError" = some (some (.ref E1)))
    (sE1 : PySem.W.subIn K (.ref E1) (.type "BaseException") = some true)
    (tE1 : PySem.W.typeIn K (.ref E1) = some (.type "type"))
    (kE1 : PySem.W.keepIn K (.ref E1) = true)
    (xE1 : PySem.W.excIn K E1 [.type "ValueError", .type "Exception", .type "BaseException", .type "object"] "ValueError.__new__" = true)
    (hE1 : PySem.W.hasDictIn K E1 = true)
    (sub0_1 : PySem.W.subIn K (.ref E0) (.ref E1) = some false)
    (sub1_1 : PySem.W.subIn K (.ref E1) (.ref E1) = some true)
    (aC0 : PySem.W.nsIn K mainGlobals "Bits" = some (some (.ref C0)))
    (pg0 : PySem.W.plainGet K C0 Str.empty = true)
    (hd0 : PySem.W.hasDictIn K C0 = true)
    (po0 : PySem.W.plainOver K C0 = true)
    (sa0 : PySem.W.findIn K (.ref C0) "__setattr__" = some (some (.builtin "object.__setattr__")))
    (mk0 : PySem.W.makesIn K C0 = true)
    (kc0 : PySem.W.keepIn K (.ref C0) = true)
    (na0_notes : PySem.W.findIn K (.ref C0) "notes" = some none)
    (na0_row : PySem.W.findIn K (.ref C0) "row" = some none)
    (a0 : PySem.W.findIn K (.ref C0) "__init__" = some (some (.ref f0)))
    (i0 : PySem.W.isFn K (.ref f0) = true)
    (l0 : K.lookup f0 = some ⟨oc0, od0, .func (PySem.W.fnOf "__init__" "Bits.__init__" (defArgs st_Bits_init) (defBody st_Bits_init) (defScope st_Bits_init) .none kV0 dc0 pm0 an0 cd0 ct0), sl0⟩)
    (c0 : PySem.W.codeIn K cd0 "Bits.__init__" = true)
    (k0 : PySem.W.keepIn K (.ref f0) = true)
    (a1 : PySem.W.findIn K (.ref C0) "__len__" = some (some (.ref f1)))
    (i1 : PySem.W.isFn K (.ref f1) = true)
    (l1 : K.lookup f1 = some ⟨oc1, od1, .func (PySem.W.fnOf "__len__" "Bits.__len__" (defArgs st_Bits_len) (defBody st_Bits_len) (defScope st_Bits_len) .none kV1 dc1 pm1 an1 cd1 ct1), sl1⟩)
    (c1 : PySem.W.codeIn K cd1 "Bits.__len__" = true)
    (k1 : PySem.W.keepIn K (.ref f1) = true)
    (a2 : PySem.W.nsIn K mainGlobals "_law_begin" = some (some (.ref f2)))
    (l2 : K.lookup f2 = some ⟨oc2, od2, .func (PySem.W.fnOf "_law_begin" "_law_begin" (defArgs st_law_begin) (defBody st_law_begin) (defScope st_law_begin) .none kV2 dc2 pm2 an2 cd2 ct2), sl2⟩)
    (c2 : PySem.W.codeIn K cd2 "_law_begin" = true)
    (k2 : PySem.W.keepIn K (.ref f2) = true)
    (a3 : PySem.W.nsIn K mainGlobals "_law_int" = some (some (.ref f3)))
    (l3 : K.lookup f3 = some ⟨oc3, od3, .func (PySem.W.fnOf "_law_int" "_law_int" (defArgs st_law_int) (defBody st_law_int) (defScope st_law_int) .none kV3 dc3 pm3 an3 cd3 ct3), sl3⟩)
    (c3 : PySem.W.codeIn K cd3 "_law_int" = true)
    (k3 : PySem.W.keepIn K (.ref f3) = true)
    (a4 : PySem.W.nsIn K mainGlobals "_law_take" = some (some (.ref f4)))
    (l4 : K.lookup f4 = some ⟨oc4, od4, .func (PySem.W.fnOf "_law_take" "_law_take" (defArgs st_law_take) (defBody st_law_take) (defScope st_law_take) .none kV4 dc4 pm4 an4 cd4 ct4), sl4⟩)
    (c4 : PySem.W.codeIn K cd4 "_law_take" = true)
    (k4 : PySem.W.keepIn K (.ref f4) = true)
    (a5 : PySem.W.findIn K (.ref C0) "ones_before" = some (some (.ref f5)))
    (i5 : PySem.W.isFn K (.ref f5) = true)
    (l5 : K.lookup f5 = some ⟨oc5, od5, .func (PySem.W.fnOf "ones_before" "Bits.ones_before" (defArgs st_Bits_ones_before) (defBody st_Bits_ones_before) (defScope st_Bits_ones_before) .none kV5 dc5 pm5 an5 cd5 ct5), sl5⟩)
    (c5 : PySem.W.codeIn K cd5 "Bits.ones_before" = true)
    (k5 : PySem.W.keepIn K (.ref f5) = true)
    (a6 : PySem.W.findIn K (.ref C0) "place_of" = some (some (.ref f6)))
    (i6 : PySem.W.isFn K (.ref f6) = true)
    (l6 : K.lookup f6 = some ⟨oc6, od6, .func (PySem.W.fnOf "place_of" "Bits.place_of" (defArgs st_Bits_place_of) (defBody st_Bits_place_of) (defScope st_Bits_place_of) .none kV6 dc6 pm6 an6 cd6 ct6), sl6⟩)
    (c6 : PySem.W.codeIn K cd6 "Bits.place_of" = true)
    (k6 : PySem.W.keepIn K (.ref f6) = true)
    (a7 : PySem.W.findIn K (.ref C0) "place_of_one" = some (some (.ref f7)))
    (i7 : PySem.W.isFn K (.ref f7) = true)
    (l7 : K.lookup f7 = some ⟨oc7, od7, .func (PySem.W.fnOf "place_of_one" "Bits.place_of_one" (defArgs st_Bits_place_of_one) (defBody st_Bits_place_of_one) (defScope st_Bits_place_of_one) .none kV7 dc7 pm7 an7 cd7 ct7), sl7⟩)
    (c7 : PySem.W.codeIn K cd7 "Bits.place_of_one" = true)
    (k7 : PySem.W.keepIn K (.ref f7) = true)
    (a8 : PySem.W.findIn K (.ref C0) "place_of_zero" = some (some (.ref f8)))
    (i8 : PySem.W.isFn K (.ref f8) = true)
    (l8 : K.lookup f8 = some ⟨oc8, od8, .func (PySem.W.fnOf "place_of_zero" "Bits.place_of_zero" (defArgs st_Bits_place_of_zero) (defBody st_Bits_place_of_zero) (defScope st_Bits_place_of_zero) .none kV8 dc8 pm8 an8 cd8 ct8), sl8⟩)
    (c8 : PySem.W.codeIn K cd8 "Bits.place_of_zero" = true)
    (k8 : PySem.W.keepIn K (.ref f8) = true)
    (a9 : PySem.W.nsIn K mainGlobals "_law_told" = some (some (.ref f9)))
    (l9 : K.lookup f9 = some ⟨oc9, od9, .func (PySem.W.fnOf "_law_told" "_law_told" (defArgs st_law_told) (defBody st_law_told) (defScope st_law_told) .none kV9 dc9 pm9 an9 cd9 ct9), sl9⟩)
    (c9 : PySem.W.codeIn K cd9 "_law_told" = true)
    (k9 : PySem.W.keepIn K (.ref f9) = true)
    (a10 : PySem.W.nsIn K mainGlobals "law" = some (some (.ref f10)))
    (l10 : K.lookup f10 = some ⟨oc10, od10, .func (PySem.W.fnOf "law" "law" (defArgs st_law) (defBody st_law) (defScope st_law) .none kV10 dc10 pm10 an10 cd10 ct10), sl10⟩)
    (c10 : PySem.W.codeIn K cd10 "law" = true)
    (k10 : PySem.W.keepIn K (.ref f10) = true)
    : ∃ fd : FuncData, (∀ (s : Shared) (v : Value), BindsTo s fd ⟨[v], []⟩ [("_law_script", v)]) ∧ ∀ base : Heap, K.In base → base.Ns mainGlobals mg → FnOk l.prog w K mg base (L2.CX l.prog w) 4 fa fd ["_law_script"] (spLaw K) := by
  have e := hfa.symm.trans (PySem.W.mg_of X G a10)
  cases e
  obtain ⟨cs, hcs⟩ : ∃ cs : List Addr, cs = [C0] := ⟨_, rfl⟩
  obtain ⟨es, hes⟩ : ∃ es : List Addr, es = [E0, E1] := ⟨_, rfl⟩
  have T : Txt K mg cs es := by
    subst hcs; subst hes
    exact ⟨PySem.W.mg_none_of X G z_abs, PySem.W.mg_none_of X G z_bool, PySem.W.mg_none_of X G z_int, PySem.W.mg_none_of X G z_isinstance, PySem.W.mg_none_of X G z_len, PySem.W.mg_none_of X G z_list, PySem.W.mg_none_of X G z_range, PySem.W.mg_none_of X G z_sum, PySem.W.mg_none_of X G z_tuple, ⟨_, PySem.W.mg_of X G k_BLOCK⟩, ⟨_, rfl, PySem.W.mg_of X G aE1, kE1, xE1, sE1, tE1⟩, ⟨_, PySem.W.mg_of X G aE1, exAll (es := [E0, E1]) (bs := [false, true]) (exCons (PySem.W.exm_ref sE1 hE1 tE1 sub0_1) (exCons (PySem.W.exm_ref sE1 hE1 tE1 sub1_1) (exNil)))⟩, ⟨fun C h => by cases h; exact ⟨pg0, hd0, po0, sa0⟩⟩, fun C h => by cases h; exact na0_notes, fun C h => by cases h; exact na0_row⟩
  have Fn0 := fun_mk (st := st_Bits_init) l0 c0 k0
  have B0 := Fn0.binds (ps := ["self", "bits"]) fun _ _ _ _ _ _ us hl => match us, hl with | [_, _], _ => rfl
  have Fn1 := fun_mk (st := st_Bits_len) l1 c1 k1
  have B1 := Fn1.binds (ps := ["self"]) fun _ _ _ _ _ _ us hl => match us, hl with | [_], _ => rfl
  have Fn2 := fun_mk (st := st_law_begin) l2 c2 k2
  have B2 := Fn2.binds (ps := ["_law_script"]) fun _ _ _ _ _ _ us hl => match us, hl with | [_], _ => rfl
  have Fn3 := fun_mk (st := st_law_int) l3 c3 k3
  have B3 := Fn3.binds (ps := ["_law_actual"]) fun _ _ _ _ _ _ us hl => match us, hl with | [_], _ => rfl
  have Fn4 := fun_mk (st := st_law_take) l4 c4 k4
  have B4 := Fn4.binds (ps := ["_law_d", "_law_many"]) fun _ _ _ _ _ _ us hl => match us, hl with | [_, _], _ => rfl
  have Fn5 := fun_mk (st := st_Bits_ones_before) l5 c5 k5
  have B5 := Fn5.binds (ps := ["self", "at"]) fun _ _ _ _ _ _ us hl => match us, hl with | [_, _], _ => rfl
  have Fn6 := fun_mk (st := st_Bits_place_of) l6 c6 k6
  have B6 := Fn6.binds (ps := ["self", "bit", "k"]) fun _ _ _ _ _ _ us hl => match us, hl with | [_, _, _], _ => rfl
  have Fn7 := fun_mk (st := st_Bits_place_of_one) l7 c7 k7
  have B7 := Fn7.binds (ps := ["self", "k"]) fun _ _ _ _ _ _ us hl => match us, hl with | [_, _], _ => rfl
  have Fn8 := fun_mk (st := st_Bits_place_of_zero) l8 c8 k8
  have B8 := Fn8.binds (ps := ["self", "k"]) fun _ _ _ _ _ _ us hl => match us, hl with | [_, _], _ => rfl
  have Fn9 := fun_mk (st := st_law_told) l9 c9 k9
  have B9 := Fn9.binds (ps := ["_law_bits", "_law_which", "_law_k"]) fun _ _ _ _ _ _ us hl => match us, hl with | [_, _, _], _ => rfl
  have Fn10 := fun_mk (st := st_law) l10 c10 k10
  have B10 := Fn10.binds (ps := ["_law_script"]) fun _ _ _ _ _ _ us hl => match us, hl with | [_], _ => rfl
  refine ⟨PySem.W.fnOf "law" "law" (defArgs st_law) (defBody st_law) (defScope st_law) .none kV10 dc10 pm10 an10 cd10 ct10, fun s v => .of_eq rfl, fun base _ _ => ?_⟩
  have D_Bits_init : MakeAt l.prog w K mg base (gOf K cs es) 1 "Bits" 0 2 F_Bits_init := ⟨C0, f0, _, _, by subst hcs; rfl, PySem.W.mg_of X G aC0, ⟨mk0, a0, i0, kc0⟩, B0, rfl, ok_Bits_init (P := l.prog) (w := w) (base := base) T  Fn0⟩
  have D_Bits_len : MethAt l.prog w K mg base (gOf K cs es) 1 0 "__len__" 1 F_Bits_len := ⟨⟨C0, f1, _, _, by subst hcs; rfl, ⟨pg0, hd0, po0, sa0⟩, ⟨a1, i1, k1⟩, B1, rfl, ok_Bits_len (P := l.prog) (w := w) (base := base) T  Fn1⟩, noFld (l := flds) (by decide +kernel)⟩
  have D_law_begin : DefAt l.prog w K mg base (gOf K cs es) 1 "_law_begin" 1 F_law_begin := ⟨f2, _, _, PySem.W.mg_of X G a2, k2, B2, rfl, ok_law_begin (P := l.prog) (w := w) (base := base) T  Fn2⟩
  have D_law_int : DefAt l.prog w K mg base (gOf K cs es) 1 "_law_int" 1 F_law_int := ⟨f3, _, _, PySem.W.mg_of X G a3, k3, B3, rfl, ok_law_int (P := l.prog) (w := w) (base := base) T  Fn3⟩
  have D_law_take : DefAt l.prog w K mg base (gOf K cs es) 1 "_law_take" 2 F_law_take := ⟨f4, _, _, PySem.W.mg_of X G a4, k4, B4, rfl, ok_law_take (P := l.prog) (w := w) (base := base) T  Fn4⟩
  have D_Bits_ones_before : MethAt l.prog w K mg base (gOf K cs es) 1 0 "ones_before" 2 F_Bits_ones_before := ⟨⟨C0, f5, _, _, by subst hcs; rfl, ⟨pg0, hd0, po0, sa0⟩, ⟨a5, i5, k5⟩, B5, rfl, ok_Bits_ones_before (P := l.prog) (w := w) (base := base) T  Fn5⟩, noFld (l := flds) (by decide +kernel)⟩
  have D_Bits_place_of : MethAt l.prog w K mg base (gOf K cs es) 1 0 "place_of" 3 F_Bits_place_of := ⟨⟨C0, f6, _, _, by subst hcs; rfl, ⟨pg0, hd0, po0, sa0⟩, ⟨a6, i6, k6⟩, B6, rfl, ok_Bits_place_of (P := l.prog) (w := w) (base := base) T  Fn6⟩, noFld (l := flds) (by decide +kernel)⟩
  have D_Bits_place_of_one : MethAt l.prog w K mg base (gOf K cs es) 2 0 "place_of_one" 2 F_Bits_place_of_one := ⟨⟨C0, f7, _, _, by subst hcs; rfl, ⟨pg0, hd0, po0, sa0⟩, ⟨a7, i7, k7⟩, B7, rfl, ok_Bits_place_of_one (P := l.prog) (w := w) (base := base) T D_Bits_place_of Fn7⟩, noFld (l := flds) (by decide +kernel)⟩
  have D_Bits_place_of_zero : MethAt l.prog w K mg base (gOf K cs es) 2 0 "place_of_zero" 2 F_Bits_place_of_zero := ⟨⟨C0, f8, _, _, by subst hcs; rfl, ⟨pg0, hd0, po0, sa0⟩, ⟨a8, i8, k8⟩, B8, rfl, ok_Bits_place_of_zero (P := l.prog) (w := w) (base := base) T D_Bits_place_of Fn8⟩, noFld (l := flds) (by decide +kernel)⟩
  have D_law_told : DefAt l.prog w K mg base (gOf K cs es) 3 "_law_told" 3 F_law_told := ⟨f9, _, _, PySem.W.mg_of X G a9, k9, B9, rfl, ok_law_told (P := l.prog) (w := w) (base := base) T D_Bits_ones_before D_Bits_place_of_one D_Bits_place_of_zero Fn9⟩
  exact FnOk.imp (ok_law (P := l.prog) (w := w) (base := base) T D_Bits_init D_Bits_len D_law_begin D_law_int D_law_take D_law_told Fn10) fun _ _ _ _ h => law_end (g := gOf K cs es) law_true h
end My
open PySem PySem.W PyProof.Rows
set_option maxRecDepth 100000 in
set_option maxHeartbeats 0 in
theorem PySem.Challenge.cw_textshards_k44_ranks_of_bits_holds : PySem.Challenge.rw_textshards_k44_ranks_of_bits.Holds := by
  w_on; o_law; k_head; (case hw => w_witness2)
  k_fill
  refine L2.walk_of (l := PySem.Challenge.rw_textshards_k44_ranks_of_bits) (n := 63) (k := 4) (x := "_law_script") (CX := fun w => L2.CX PySem.Challenge.rw_textshards_k44_ranks_of_bits.prog w) (sp := fun w => Mi.spLaw _) rfl (by decide) rfl ⟨rfl, by decide, by decide⟩ (fun w h Y => PySem.W.kIn_of Y) ?F (fun _ _ a ns hl _ hS => ⟨a, ns, rfl, hS, hl, fun _ => rfl⟩) (fun _ _ _ _ _ h => Mi.cx_false h)
  case F =>
    intro w mg fa h KX G hmg
    refine' My.all_mk KX G hmg ?z_abs ?z_bool ?z_int ?z_isinstance ?z_len ?z_list ?z_range ?z_sum ?z_tuple ?k_BLOCK ?aE0 ?aE1 ?sE1 ?tE1 ?kE1 ?xE1 ?hE1 ?sub0_1 ?sub1_1 ?aC0 ?pg0 ?hd0 ?po0 ?sa0 ?mk0 ?kc0 ?na0_notes ?na0_row ?a0 ?i0 ?l0 ?c0 ?k0 ?a1 ?i1 ?l1 ?c1 ?k1 ?a2 ?l2 ?c2 ?k2 ?a3 ?l3 ?c3 ?k3 ?a4 ?l4 ?c4 ?k4 ?a5 ?i5 ?l5 ?c5 ?k5 ?a6 ?i6 ?l6 ?c6 ?k6 ?a7 ?i7 ?l7 ?c7 ?k7 ?a8 ?i8 ?l8 ?c8 ?k8 ?a9 ?l9 ?c9 ?k9 ?a10 ?l10 ?c10 ?k10
    (case z_abs => first | k_is | rfl); (case z_bool => first | k_is | rfl); (case z_int => first | k_is | rfl); (case z_isinstance => first | k_is | rfl); (case z_len => first | k_is | rfl); (case z_list => first | k_is | rfl)
    (case z_range => first | k_is | rfl); (case z_sum => first | k_is | rfl); (case z_tuple => first | k_is | rfl); (case k_BLOCK => first | k_is | rfl); (case aE0 => first | k_is | rfl); (case aE1 => first | k_is | rfl)
    (case sE1 => first | k_is | rfl); (case tE1 => first | k_is | rfl); (case kE1 => first | k_is | rfl); (case xE1 => k_exc); (case hE1 => first | k_is | rfl); (case sub0_1 => first | k_is | rfl)
    (case sub1_1 => first | k_is | rfl); (case aC0 => first | k_is | rfl); (case pg0 => first | k_is | rfl); (case hd0 => first | k_is | rfl); (case po0 => first | k_is | rfl); (case sa0 => first | k_is | rfl)
    (case mk0 => first | k_is | rfl); (case kc0 => first | k_is | rfl); (case na0_notes => first | k_is | rfl); (case na0_row => first | k_is | rfl); (case a0 => first | k_is | rfl); (case i0 => first | k_is | rfl)
    (case l0 => first | k_is | rfl); (case c0 => first | k_is | rfl); (case k0 => first | k_is | rfl); (case a1 => first | k_is | rfl); (case i1 => first | k_is | rfl); (case l1 => first | k_is | rfl)
    (case c1 => first | k_is | rfl); (case k1 => first | k_is | rfl); (case a2 => first | k_is | rfl); (case l2 => first | k_is | rfl); (case c2 => first | k_is | rfl); (case k2 => first | k_is | rfl)
    (case a3 => first | k_is | rfl); (case l3 => first | k_is | rfl); (case c3 => first | k_is | rfl); (case k3 => first | k_is | rfl); (case a4 => first | k_is | rfl); (case l4 => first | k_is | rfl)
    (case c4 => first | k_is | rfl); (case k4 => first | k_is | rfl); (case a5 => first | k_is | rfl); (case i5 => first | k_is | rfl); (case l5 => first | k_is | rfl); (case c5 => first | k_is | rfl)
    (case k5 => first | k_is | rfl); (case a6 => first | k_is | rfl); (case i6 => first | k_is | rfl); (case l6 => first | k_is | rfl); (case c6 => first | k_is | rfl); (case k6 => first | k_is | rfl)
    (case a7 => first | k_is | rfl); (case i7 => first | k_is | rfl); (case l7 => first | k_is | rfl); (case c7 => first | k_is | rfl); (case k7 => first | k_is | rfl); (case a8 => first | k_is | rfl)
    (case i8 => first | k_is | rfl); (case l8 => first | k_is | rfl); (case c8 => first | k_is | rfl); (case k8 => first | k_is | rfl); (case a9 => first | k_is | rfl); (case l9 => first | k_is | rfl)
    (case c9 => first | k_is | rfl); (case k9 => first | k_is | rfl); (case a10 => first | k_is | rfl); (case l10 => first | k_is | rfl); (case c10 => first | k_is | rfl); (case k10 => first | k_is | rfl)

