import PyProof.Rows.All
import Wide.All
import OpenK.AllK
import Wide.FinOn
import HandS.ForMost
import HandS.ForExc
import HandS.CallSlots
import HandS.Deep
import HandS.TupAny
import HandS.TupLe
import HandS.Zip
import HandS.Flow
import HandS.Wide
import HandS.Style
import KE.KDictKeyed
import KE.KDictWalk
import HandS.IsInst
import HandS.TupMul
import KE.KTupSum
import KE.DataFind
import KE.DataMinMax
import KE.DataCmp
import KE.SortData
import HandS.Defaults
import PyProof.ListRange
import HandS.Head2
import HandS.HeadEnd
import HandS.HeadHook2
import HandS.SortInts
import HandS.SortKw
import HandS.SortRule
import HandS.Strs
import PyProof.EnumMake
import PyProof.Draws
import HandS.Zip0
import KE.GoesMore
import PyProof.WalksMore
import KE.KDictDisplayH
import HandS.Small
import KE.LtSeq
import HandS.TryOnly
import HandS.SetFor
import HandS.TupSets
import KE.GoesEnum
import PySem.Challenge.RW_boardcalls_k22_whole_boards_in_all
set_option Elab.async false
set_option linter.all false
set_option maxRecDepth 100000
namespace DL
open PySem PySem.Spec PyProof.Rows L2

/-! ### data, store -/
inductive D where
  | non | bl (b : Bool) | int (i : Int) | str (x : Str)
  | tup (xs : List D) | lst (xs : List D) | ref (n : Nat) | scr (ns : List Int)
  /-- a tuple that a walk hands over, to be taken apart at once -/
  | ltp (xs : List D)
mutual
def D.beq : D → D → Bool
  | .non, e => match e with
    | .non => true
    | _ => false
  | .bl a, e => match e with
    | .bl b => a == b
    | _ => false
  | .int a, e => match e with
    | .int b => decide (a = b)
    | _ => false
  | .str a, e => match e with
    | .str b => decide (a = b)
    | _ => false
  | .tup a, e => match e with
    | .tup b => D.beqL a b
    | _ => false
  | .lst a, e => match e with
    | .lst b => D.beqL a b
    | _ => false
  | .ref a, e => match e with
    | .ref b => decide (a = b)
    | _ => false
  | .scr a, e => match e with
    | .scr b => decide (a = b)
    | _ => false
  | .ltp a, e => match e with
    | .ltp b => D.beqL a b
    | _ => false
def D.beqL : List D → List D → Bool
  | [], l => l.isEmpty
  | x :: xs, l => match l with
    | [] => false
    | y :: ys => D.beq x y && D.beqL xs ys
end
mutual
theorem D.beq_iff : ∀ (a b : D), D.beq a b = true ↔ a = b
  | .non, b => by cases b <;> simp [D.beq]
  | .bl a, b => by cases b <;> simp [D.beq]
  | .int a, b => by cases b <;> simp [D.beq]
  | .str a, b => by cases b <;> simp [D.beq]
  | .tup a, b => by cases b <;> simp [D.beq, D.beqL_iff a]
  | .lst a, b => by cases b <;> simp [D.beq, D.beqL_iff a]
  | .ref a, b => by cases b <;> simp [D.beq]
  | .scr a, b => by cases b <;> simp [D.beq]
  | .ltp a, b => by cases b <;> simp [D.beq, D.beqL_iff a]
theorem D.beqL_iff : ∀ (a b : List D), D.beqL a b = true ↔ a = b
  | [], b => by cases b <;> simp [D.beqL]
  | x :: xs, b => by cases b <;> simp [D.beqL, D.beq_iff x, D.beqL_iff xs]
end
instance : DecidableEq D := fun a b => decidable_of_iff _ (D.beq_iff a b)
inductive Cell where
  | lst (xs : List D) | dct (t : Bool) (kvs : List (D × D)) | ins (c : Str) (fs : List (Str × D))
  /-- a dict that is walked -/
  | lkd (t : Bool) (kvs : List (D × D))
deriving DecidableEq
abbrev Store := List Cell
abbrev Env := List (Option D)
/-- what is known of the module: its written part, the addresses of its classes -/
structure Gm where
  K : PySem.W.Frag
  ca : Str → Addr
  pr : Program
  wd : World

/-! ### how data lie in the abstract heap -/
def LstAt (α : List Addr) (H : Hp) (a : Addr) (vs : List V) : Prop := a ∉ α ∧ H a = some (.lst vs)
def TupAt (K : PySem.W.Frag) (α : List Addr) (H : Hp) (a : Addr) (vs : List V) : Prop :=
  (a ∉ α ∧ ∃ o : Obj, H a = some (.frz o (.tup vs)) ∧ o.dict = none) ∨ ∃ (o : Obj) (its : Array Value) (n : Nat), K.lookup a = some o ∧ o.cls = .type "tuple" ∧ o.data = .seq its n ∧ its.size ≤ sizeLine ∧ Vals vs its.toList ∧ o.dict = none
/-- the script: a list that nobody changes -/
def ScrAt (K : PySem.W.Frag) (α : List Addr) (H : Hp) (a : Addr) (vs : List V) : Prop :=
  (a ∉ α ∧ Rd H a (.lst vs)) ∨ ∃ (o : Obj) (its : Array Value) (n : Nat), K.lookup a = some o ∧ o.cls = .type "list" ∧ o.dict = none ∧ o.data = .seq its n ∧ its.size ≤ sizeLine ∧ Vals vs its.toList
mutual
def Rep (K : PySem.W.Frag) (α : List Addr) (H : Hp) : D → V → Prop
  | .non, v => v = .non
  | .bl b, v => v = .bl b
  | .int i, v => v = .int i
  | .str x, v => v = .str x ∧ PyData.strOk x = true
  | .tup xs, v => ∃ a vs, v = .ref a ∧ TupAt K α H a vs ∧ RepL K α H xs vs
  | .lst xs, v => ∃ a vs, v = .ref a ∧ LstAt α H a vs ∧ RepL K α H xs vs
  | .ref n, v => ∃ a, v = .ref a ∧ α[n]? = some a
  | .scr ns, v => ∃ a, v = .ref a ∧ ScrAt K α H a (ns.map V.int)
  | .ltp xs, v => ∃ a vs, v = .ref a ∧ (a ∉ α ∧ Rd H a (.tup vs)) ∧ RepL K α H xs vs
def RepL (K : PySem.W.Frag) (α : List Addr) (H : Hp) : List D → List V → Prop
  | [], vs => vs = []
  | x :: xs, vs => ∃ v r, vs = v :: r ∧ Rep K α H x v ∧ RepL K α H xs r
end
/-- the world goes on: new cells, new objects; what is no cell stays -/
structure Le (α : List Addr) (H : Hp) (α' : List Addr) (H' : Hp) : Prop where
  pre : ∃ β, α' = α ++ β ∧ ∀ b ∈ β, b ∉ α ∧ H b = none
  keep : ∀ b o, b ∉ α → H b = some o → H' b = some o
theorem Le.refl {α : List Addr} {H : Hp} : Le α H α H := ⟨⟨[], by simp, by simp⟩, fun _ _ _ e => e⟩
theorem Le.out {α α' : List Addr} {H H' : Hp} (l : Le α H α' H') {b : Addr} {o : HO} (n : b ∉ α) (e : H b = some o) : b ∉ α' := by
  obtain ⟨β, rfl, hb⟩ := l.pre
  intro m
  rcases List.mem_append.mp m with m | m
  · exact n m
  · rw [(hb b m).2] at e; cases e
theorem Le.trans {α α' α'' : List Addr} {H H' H'' : Hp} (l : Le α H α' H') (k : Le α' H' α'' H'') : Le α H α'' H'' := by
  obtain ⟨β, e1, hb⟩ := l.pre
  obtain ⟨γ, e2, hc⟩ := k.pre
  refine ⟨⟨β ++ γ, by rw [e2, e1, List.append_assoc], fun b m => ?_⟩, fun b o n e => k.keep b o (l.out n e) (l.keep b o n e)⟩
  rcases List.mem_append.mp m with m | m
  · exact hb b m
  · have nb : b ∉ α := fun z => (hc b m).1 (by rw [e1]; exact List.mem_append_left _ z)
    refine ⟨nb, ?_⟩
    cases q : H b with
    | none => rfl
    | some o => have := l.keep b o nb q; rw [(hc b m).2] at this; cases this
theorem Le.at {α α' : List Addr} {H H' : Hp} (l : Le α H α' H') {n : Nat} {a : Addr} (e : α[n]? = some a) : α'[n]? = some a := by
  obtain ⟨β, rfl, _⟩ := l.pre
  rw [List.getElem?_append_left (List.getElem?_eq_some_iff.mp e).1]
  exact e
theorem LstAt.mono {α α' : List Addr} {H H' : Hp} {a : Addr} {vs : List V} (l : Le α H α' H') (h : LstAt α H a vs) : LstAt α' H' a vs :=
  ⟨l.out h.1 h.2, l.keep _ _ h.1 h.2⟩
theorem TupAt.mono {K : PySem.W.Frag} {α α' : List Addr} {H H' : Hp} {a : Addr} {vs : List V} (l : Le α H α' H') (h : TupAt K α H a vs) : TupAt K α' H' a vs := by
  rcases h with ⟨n, o, h, e⟩ | h
  · exact .inl ⟨l.out n h, o, l.keep _ _ n h, e⟩
  · exact .inr h
theorem ltp_mono {α α' : List Addr} {H H' : Hp} {a : Addr} {vs : List V} (l : Le α H α' H') (h : a ∉ α ∧ Rd H a (.tup vs)) : a ∉ α' ∧ Rd H' a (.tup vs) := by
  obtain ⟨n, h | ⟨o, h⟩⟩ := h
  · exact ⟨l.out n h, .inl (l.keep _ _ n h)⟩
  · exact ⟨l.out n h, .inr ⟨o, l.keep _ _ n h⟩⟩
theorem ScrAt.mono {K : PySem.W.Frag} {α α' : List Addr} {H H' : Hp} {a : Addr} {vs : List V} (l : Le α H α' H') (h : ScrAt K α H a vs) : ScrAt K α' H' a vs := by
  rcases h with ⟨n, h | ⟨o, h⟩⟩ | h
  · exact .inl ⟨l.out n h, .inl (l.keep _ _ n h)⟩
  · exact .inl ⟨l.out n h, .inr ⟨o, l.keep _ _ n h⟩⟩
  · exact .inr h
mutual
theorem Rep.mono {K : PySem.W.Frag} {α α' : List Addr} {H H' : Hp} (l : Le α H α' H') : ∀ {d : D} {v : V}, Rep K α H d v → Rep K α' H' d v
  | .non, _, h => h
  | .bl _, _, h => h
  | .int _, _, h => h
  | .str _, _, h => h
  | .tup xs, _, h => by
    obtain ⟨a, vs, e, t, r⟩ := (show ∃ a vs, _ ∧ TupAt K α H a vs ∧ RepL K α H xs vs from h)
    exact ⟨a, vs, e, t.mono l, RepL.mono l r⟩
  | .lst xs, _, h => by
    obtain ⟨a, vs, e, t, r⟩ := (show ∃ a vs, _ ∧ LstAt α H a vs ∧ RepL K α H xs vs from h)
    exact ⟨a, vs, e, t.mono l, RepL.mono l r⟩
  | .ref n, _, h => by
    obtain ⟨a, e, q⟩ := (show ∃ a, _ ∧ α[n]? = some a from h)
    exact ⟨a, e, l.at q⟩
  | .scr ns, _, h => by
    obtain ⟨a, e, q⟩ := (show ∃ a, _ ∧ ScrAt K α H a (ns.map V.int) from h)
    exact ⟨a, e, q.mono l⟩
  | .ltp xs, _, h => by
    obtain ⟨a, vs, e, t, r⟩ := (show ∃ a vs, _ ∧ (a ∉ α ∧ Rd H a (.tup vs)) ∧ RepL K α H xs vs from h)
    exact ⟨a, vs, e, ltp_mono l t, RepL.mono l r⟩
theorem RepL.mono {K : PySem.W.Frag} {α α' : List Addr} {H H' : Hp} (l : Le α H α' H') : ∀ {ds : List D} {vs : List V}, RepL K α H ds vs → RepL K α' H' ds vs
  | [], _, h => h
  | x :: xs, _, h => by
    obtain ⟨v, r, e, h1, h2⟩ := (show ∃ v r, _ ∧ Rep K α H x v ∧ RepL K α H xs r from h)
    exact ⟨v, r, e, Rep.mono l h1, RepL.mono l h2⟩
end
section
variable {K : PySem.W.Frag} {α : List Addr} {H : Hp}
theorem RepL.len : ∀ {ds : List D} {vs : List V}, RepL K α H ds vs → ds.length = vs.length
  | [], _, h => by cases (show _ = [] from h); rfl
  | x :: xs, _, h => by
    obtain ⟨v, r, rfl, _, h2⟩ := (show ∃ v r, _ ∧ Rep K α H x v ∧ RepL K α H xs r from h)
    simp [RepL.len h2]
theorem RepL.get : ∀ {ds : List D} {vs : List V} {i : Nat} {d : D}, RepL K α H ds vs → ds[i]? = some d → ∃ v, vs[i]? = some v ∧ Rep K α H d v
  | x :: xs, _, 0, d, h, e => by
    obtain ⟨v, r, rfl, h1, _⟩ := (show ∃ v r, _ ∧ Rep K α H x v ∧ RepL K α H xs r from h)
    cases (show some x = some d from by simpa using e)
    exact ⟨v, rfl, h1⟩
  | x :: xs, _, i + 1, d, h, e => by
    obtain ⟨v, r, rfl, _, h2⟩ := (show ∃ v r, _ ∧ Rep K α H x v ∧ RepL K α H xs r from h)
    obtain ⟨u, e1, r1⟩ := RepL.get (i := i) h2 (by simpa using e)
    exact ⟨u, by simpa using e1, r1⟩
theorem RepL.got {ds : List D} {vs : List V} {i : Nat} {v : V} (h : RepL K α H ds vs) (e : vs[i]? = some v) : ∃ d, ds[i]? = some d ∧ Rep K α H d v := by
  have hl : i < ds.length := by rw [h.len]; exact (List.getElem?_eq_some_iff.mp e).1
  obtain ⟨u, e1, r⟩ := h.get (List.getElem?_eq_getElem hl)
  rw [e] at e1; cases e1
  exact ⟨_, List.getElem?_eq_getElem hl, r⟩
theorem RepL.nil : RepL K α H [] [] := rfl
theorem RepL.cons {d : D} {v : V} {ds : List D} {vs : List V} (h : Rep K α H d v) (t : RepL K α H ds vs) : RepL K α H (d :: ds) (v :: vs) := ⟨v, vs, rfl, h, t⟩
theorem RepL.append : ∀ {xs ys : List D} {us vs : List V}, RepL K α H xs us → RepL K α H ys vs → RepL K α H (xs ++ ys) (us ++ vs)
  | [], _, _, _, h, k => by cases (show _ = [] from h); exact k
  | x :: xs, _, _, _, h, k => by
    obtain ⟨v, r, rfl, h1, h2⟩ := (show ∃ v r, _ ∧ Rep K α H x v ∧ RepL K α H xs r from h)
    exact .cons h1 (RepL.append h2 k)
theorem RepL.take : ∀ {xs : List D} {us : List V} (n : Nat), RepL K α H xs us → RepL K α H (xs.take n) (us.take n)
  | _, _, 0, _ => rfl
  | [], _, n + 1, h => by cases (show _ = [] from h); rfl
  | x :: xs, _, n + 1, h => by
    obtain ⟨v, r, rfl, h1, h2⟩ := (show ∃ v r, _ ∧ Rep K α H x v ∧ RepL K α H xs r from h)
    exact .cons h1 (RepL.take n h2)
theorem RepL.drop : ∀ {xs : List D} {us : List V} (n : Nat), RepL K α H xs us → RepL K α H (xs.drop n) (us.drop n)
  | _, _, 0, h => h
  | [], _, n + 1, h => by cases (show _ = [] from h); rfl
  | x :: xs, _, n + 1, h => by
    obtain ⟨v, r, rfl, h1, h2⟩ := (show ∃ v r, _ ∧ Rep K α H x v ∧ RepL K α H xs r from h)
    exact RepL.drop n h2
theorem RepL.set {x : D} {u : V} (hx : Rep K α H x u) : ∀ {xs : List D} {us : List V} (i : Nat), RepL K α H xs us → RepL K α H (xs.set i x) (us.set i u)
  | [], _, _, h => by cases (show _ = [] from h); rfl
  | y :: xs, _, 0, h => by
    obtain ⟨v, r, rfl, h1, h2⟩ := (show ∃ v r, _ ∧ Rep K α H y v ∧ RepL K α H xs r from h)
    exact .cons hx h2
  | y :: xs, _, i + 1, h => by
    obtain ⟨v, r, rfl, h1, h2⟩ := (show ∃ v r, _ ∧ Rep K α H y v ∧ RepL K α H xs r from h)
    exact .cons h1 (RepL.set hx i h2)
theorem RepL.erase : ∀ {xs : List D} {us : List V} (i : Nat), RepL K α H xs us → RepL K α H (xs.eraseIdx i) (us.eraseIdx i)
  | [], _, _, h => by cases (show _ = [] from h); rfl
  | y :: xs, _, 0, h => by
    obtain ⟨v, r, rfl, h1, h2⟩ := (show ∃ v r, _ ∧ Rep K α H y v ∧ RepL K α H xs r from h)
    exact h2
  | y :: xs, _, i + 1, h => by
    obtain ⟨v, r, rfl, h1, h2⟩ := (show ∃ v r, _ ∧ Rep K α H y v ∧ RepL K α H xs r from h)
    exact .cons h1 (RepL.erase i h2)
theorem RepL.reverse : ∀ {xs : List D} {us : List V}, RepL K α H xs us → RepL K α H xs.reverse us.reverse
  | [], _, h => by cases (show _ = [] from h); rfl
  | x :: xs, _, h => by
    obtain ⟨v, r, rfl, h1, h2⟩ := (show ∃ v r, _ ∧ Rep K α H x v ∧ RepL K α H xs r from h)
    rw [List.reverse_cons, List.reverse_cons]
    exact (RepL.reverse h2).append (.cons h1 .nil)
theorem RepL.ints : ∀ (ns : List Int), RepL K α H (ns.map D.int) (ns.map V.int)
  | [] => rfl
  | n :: ns => .cons rfl (RepL.ints ns)
theorem RepL.of_ints : ∀ {ns : List Int} {vs : List V}, RepL K α H (ns.map D.int) vs → vs = ns.map V.int
  | [], _, h => h
  | n :: ns, _, h => by
    obtain ⟨v, r, rfl, h1, h2⟩ := (show ∃ v r, _ ∧ Rep K α H (.int n) v ∧ RepL K α H (ns.map D.int) r from h)
    rw [RepL.of_ints h2, List.map_cons]
    cases (show v = .int n from h1)
    rfl
theorem LstAt.seq {a : Addr} {vs : List V} (h : LstAt α H a vs) : SqL K H a vs := .inl (.inl h.2)
theorem ScrAt.seq {a : Addr} {vs : List V} (h : ScrAt K α H a vs) : SqL K H a vs := by
  rcases h with ⟨_, h⟩ | h
  · exact .inl h
  · exact .inr h
theorem TupAt.seq {a : Addr} {vs : List V} (h : TupAt K α H a vs) : SqT K H a vs := by
  rcases h with ⟨_, o, h, _⟩ | ⟨o, its, n, h1, h2, h3, h4, h5, _⟩
  · exact .inl (.inr ⟨o, h⟩)
  · exact .inr ⟨o, its, n, h1, h2, h3, h4, h5⟩
end

/-! ### the store -/
def kD : Key → D
  | .inl i => .int i
  | .inr x => .str x
def keyOk : Key → Prop
  | .inl _ => True
  | .inr x => PyData.strOk x = true
mutual
/-- data as a key -/
def nkD : D → Option NestedKey
  | .non => some .none
  | .int i => some (.num i)
  | .str x => some (.text x)
  | .tup xs => (nkL xs).map .tup
  | .bl _ => none
  | .lst _ => none
  | .ref _ => none
  | .scr _ => none
  | .ltp _ => none
def nkL : List D → Option (List NestedKey)
  | [] => some []
  | x :: xs => (nkD x).bind fun k => (nkL xs).map (k :: ·)
end
/-- a dict whose keys are tuples, by its object -/
def DKA (G : Gm) (a : Addr) (xs : List (NestedKey × Addr × Value)) : Heap → Prop := fun h =>
  (a == sysModules) = false ∧ xs.length ≤ sizeLine ∧ ∃ o es ep, h.get? a = some o ∧ o.ExactDict ∧ o.data = .dict es ep ∧ es.toList = xs.map (entryOfKey (nestedKind G.pr G.wd)) ∧ (xs.map (·.1)).Nodup
/-- what is known of a dict, t: its keys are tuples, u: how it lies -/
def DctU (G : Gm) (α : List Addr) (H : Hp) (a : Addr) (t : Bool) (u : HO) (kvs : List (D × D)) : Prop := match t with
  | false => ∃ ks, u = .dK ks ∧ Paired (fun (p : D × D) (q : Key × V) => p.1 = kD q.1 ∧ keyOk q.1 ∧ Rep G.K α H p.2 q.2) kvs ks
  | true => ∃ xs, u = .ext (DKA G a xs) ∧ Paired (fun (p : D × D) (q : NestedKey × Addr × Value) => nkD p.1 = some q.1 ∧ q.1.depth ≤ 8 ∧ Rep G.K α H p.1 (.ref q.2.1) ∧ ∃ v, RelV v q.2.2 ∧ Rep G.K α H p.2 v) kvs xs
def FldAt (K : PySem.W.Frag) (α : List Addr) (H : Hp) (fs : List (Str × D)) (gs : List (Str × V)) : Prop :=
  Paired (fun (p : Str × D) (q : Str × V) => p.1 = q.1 ∧ Rep K α H p.2 q.2) fs gs
def CellAtD (G : Gm) (α : List Addr) (H : Hp) (a : Addr) : Cell → Prop
  | .lst xs => ∃ vs, H a = some (.lst vs) ∧ RepL G.K α H xs vs
  | .dct t kvs => ∃ u, H a = some u ∧ DctU G α H a t u kvs
  | .lkd t kvs => ∃ o u, H a = some (.frz o u) ∧ DctU G α H a t u kvs
  | .ins c fs => ∃ dx gs, H a = some (.ins (G.ca c) dx gs) ∧ H dx = some (.own a) ∧ dx ∉ α ∧ FldAt G.K α H fs gs
structure SR (G : Gm) (α : List Addr) (st : Store) (H : Hp) : Prop where
  len : α.length = st.length
  nd : α.Nodup
  cell : ∀ (n : Nat) (a : Addr) (c : Cell), α[n]? = some a → st[n]? = some c → CellAtD G α H a c
theorem PairedMap {A B : Type} {F G : A → B → Prop} {xs : List A} {ys : List B} (p : Paired F xs ys) (f : ∀ a b, F a b → G a b) : Paired G xs ys := Paired.mapP p f
end DL

namespace DL
open PySem PySem.Spec PyProof.Rows L2

section
variable {G : Gm} {α α' : List Addr} {H H' : Hp} {st : Store}
theorem FldAt.mono {fs : List (Str × D)} {gs : List (Str × V)} (l : Le α H α' H') (h : FldAt G.K α H fs gs) : FldAt G.K α' H' fs gs :=
  Paired.mapP h fun _ _ q => ⟨q.1, q.2.mono l⟩
theorem DctU.mono {a : Addr} {t : Bool} {u : HO} {kvs : List (D × D)} (l : Le α H α' H') (h : DctU G α H a t u kvs) : DctU G α' H' a t u kvs := by
  cases t with
  | false =>
    obtain ⟨ks, e, p⟩ := h
    exact ⟨ks, e, Paired.mapP p fun _ _ q => ⟨q.1, q.2.1, q.2.2.mono l⟩⟩
  | true =>
    obtain ⟨xs, e, p⟩ := h
    exact ⟨xs, e, Paired.mapP p fun _ _ ⟨q1, q2, q3, v, q4, q5⟩ => ⟨q1, q2, q3.mono l, v, q4, q5.mono l⟩⟩
theorem CellAtD.mono {a : Addr} {c : Cell} (l : Le α H α' H') (ha : ∀ o, H a = some o → H' a = some o) (h : CellAtD G α H a c) : CellAtD G α' H' a c := by
  cases c with
  | lst xs => obtain ⟨vs, e, r⟩ := h; exact ⟨vs, ha _ e, r.mono l⟩
  | dct t kvs => obtain ⟨u, e, r⟩ := h; exact ⟨u, ha _ e, r.mono l⟩
  | lkd t kvs => obtain ⟨o, u, e, r⟩ := h; exact ⟨o, u, ha _ e, r.mono l⟩
  | ins c fs => obtain ⟨dx, gs, e, e2, n, p⟩ := h; exact ⟨dx, gs, ha _ e, l.keep _ _ n e2, l.out n e2, p.mono l⟩
theorem SR.get (S : SR G α st H) {n : Nat} {c : Cell} (e : st[n]? = some c) : ∃ a, α[n]? = some a ∧ CellAtD G α H a c := by
  have hn : n < α.length := by rw [S.len]; exact (List.getElem?_eq_some_iff.mp e).1
  exact ⟨_, List.getElem?_eq_getElem hn, S.cell n _ c (List.getElem?_eq_getElem hn) e⟩
theorem SR.lt (S : SR G α st H) {n : Nat} {a : Addr} (e : α[n]? = some a) : n < st.length := by rw [← S.len]; exact (List.getElem?_eq_some_iff.mp e).1
theorem SR.inj (S : SR G α st H) {n m : Nat} {a : Addr} (e : α[n]? = some a) (k : α[m]? = some a) : n = m := by
  obtain ⟨h1, e1⟩ := List.getElem?_eq_some_iff.mp e
  obtain ⟨h2, e2⟩ := List.getElem?_eq_some_iff.mp k
  exact (List.getElem_inj S.nd).mp (e1.trans e2.symm)
/-- an object that is no cell is laid -/
theorem Le.laid {p : Addr} {o : HO} (n : H p = none) : Le α H α (upd H p o) :=
  ⟨⟨[], by simp, by simp⟩, fun b u _ e => by rw [upd_ne (ne_of_none e n)]; exact e⟩
theorem SR.stay (S : SR G α st H) (l : Le α H α H') (ha : ∀ a ∈ α, ∀ o, H a = some o → H' a = some o) : SR G α st H' :=
  ⟨S.len, S.nd, fun n a c e k => (S.cell n a c e k).mono l (ha a (List.mem_of_getElem? e))⟩
theorem SR.laid (S : SR G α st H) {p : Addr} {o : HO} (n : H p = none) : SR G α st (upd H p o) :=
  S.stay (Le.laid n) fun a _ u e => by rw [upd_ne (ne_of_none e n)]; exact e
/-- a cell is laid -/
theorem Le.new {p : Addr} {o : HO} (n : H p = none) (hp : p ∉ α) : Le α H (α ++ [p]) (upd H p o) :=
  ⟨⟨[p], rfl, fun b m => by cases List.mem_singleton.mp m; exact ⟨hp, n⟩⟩, fun b u _ e => by rw [upd_ne (ne_of_none e n)]; exact e⟩
theorem SR.notIn (S : SR G α st H) {p : Addr} (n : H p = none) : p ∉ α := fun m => by
  obtain ⟨i, e⟩ := List.mem_iff_getElem?.mp m
  obtain ⟨a, e2, q⟩ := S.get (n := i) (c := st[i]'(S.lt e)) (List.getElem?_eq_getElem _)
  rw [e] at e2; cases e2
  revert q
  cases st[i]'(S.lt e) with
  | lst xs => rintro ⟨vs, e, _⟩; rw [n] at e; cases e
  | dct t kvs => rintro ⟨u, e, _⟩; rw [n] at e; cases e
  | lkd t kvs => rintro ⟨o, u, e, _⟩; rw [n] at e; cases e
  | ins c fs => rintro ⟨dx, gs, e, _⟩; rw [n] at e; cases e

theorem SR.new (S : SR G α st H) {p : Addr} {o : HO} {c : Cell} (n : H p = none) (h : CellAtD G (α ++ [p]) (upd H p o) p c) : SR G (α ++ [p]) (st ++ [c]) (upd H p o) := by
  have np := S.notIn n
  refine ⟨by simp [S.len], ?_, fun i a c' e k => ?_⟩
  · rw [List.nodup_append]
    refine ⟨S.nd, by simp, fun b hb d hd => ?_⟩
    cases List.mem_singleton.mp hd
    rintro rfl
    exact np hb
  · by_cases hi : i < α.length
    · rw [List.getElem?_append_left hi] at e
      rw [List.getElem?_append_left (by rw [← S.len]; exact hi)] at k
      refine (S.cell i a c' e k).mono (Le.new n np) fun u q => ?_
      rw [upd_ne (ne_of_none q n)]; exact q
    · rw [List.getElem?_append_right (by omega)] at e
      rw [List.getElem?_append_right (by rw [← S.len]; omega)] at k
      cases hj : i - α.length with
      | zero =>
        rw [hj] at e
        rw [← S.len, hj] at k
        simp at e k
        subst e k
        exact h
      | succ j => rw [hj] at e; simp at e
theorem Le.write {a : Addr} {o : HO} (h : a ∈ α) : Le α H α (upd H a o) :=
  ⟨⟨[], by simp, by simp⟩, fun b u n e => by rw [upd_ne (fun z : b = a => n (by rw [z]; exact h))]; exact e⟩
theorem SR.write (S : SR G α st H) {n : Nat} {a : Addr} {o : HO} {c : Cell} (e : α[n]? = some a) (h : CellAtD G α (upd H a o) a c) : SR G α (st.set n c) (upd H a o) := by
  refine ⟨by simp [S.len], S.nd, fun i b c' e1 k => ?_⟩
  by_cases hi : i = n
  · subst hi
    rw [e] at e1; cases e1
    rw [List.getElem?_set_self (S.lt e)] at k
    cases k
    exact h
  · rw [List.getElem?_set_ne (Ne.symm hi)] at k
    refine (S.cell i b c' e1 k).mono (Le.write (List.mem_of_getElem? e)) fun u q => ?_
    rw [upd_ne (fun z : b = a => hi (S.inj e1 (by rw [z]; exact e)))]
    exact q
end

/-! ### results -/
inductive Res (A : Type) where
  | ok (a : A) (st : Store)
  | exc (c : Str) (st : Store)
  | stuck
def Res.bind {A B : Type} (r : Res A) (k : A → Store → Res B) : Res B := match r with
  | .ok a s => k a s
  | .exc c s => .exc c s
  | .stuck => .stuck
theorem Res.bind_ok {A B : Type} (a : A) (s : Store) (k : A → Store → Res B) : (Res.ok a s).bind k = k a s := rfl
theorem Res.bind_exc {A B : Type} (c : Str) (s : Store) (k : A → Store → Res B) : (Res.exc c s : Res A).bind k = .exc c s := rfl
theorem Res.bind_stuck {A B : Type} (k : A → Store → Res B) : (Res.stuck : Res A).bind k = .stuck := rfl
inductive Out where
  | next (ρ : Env) (st : Store)
  | ret (d : D) (st : Store)
  | brk (ρ : Env) (st : Store)
  | cont (ρ : Env) (st : Store)
  | exc (c : Str) (ρ : Env) (st : Store)
  | stuck
abbrev Den := Env → Store → Res D
abbrev DenL := Env → Store → Res (List D)
abbrev DenB := Env → Store → Res Bool
abbrev DenS := Env → Store → Out

def EnvR (K : PySem.W.Frag) (α : List Addr) (H : Hp) (ρ : Env) (σ : L2.St) : Prop :=
  ρ.length = σ.length ∧ ∀ (i : Nat) (d : D), ρ[i]? = some (some d) → ∃ v, σ[i]? = some (some v) ∧ Rep K α H d v
section
variable {G : Gm} {α α' : List Addr} {H H' : Hp} {st : Store} {ρ : Env} {σ : L2.St} {K : PySem.W.Frag}
theorem EnvR.mono (l : Le α H α' H') (h : EnvR K α H ρ σ) : EnvR K α' H' ρ σ :=
  ⟨h.1, fun i d e => let ⟨v, e1, r⟩ := h.2 i d e; ⟨v, e1, r.mono l⟩⟩
theorem EnvR.set (h : EnvR K α H ρ σ) {d : D} {v : V} (r : Rep K α H d v) (i : Nat) : EnvR K α H (ρ.set i (some d)) (σ.set i (some v)) := by
  refine ⟨by simp [h.1], fun j e q => ?_⟩
  by_cases hj : j = i
  · subst hj
    by_cases hl : j < ρ.length
    · rw [List.getElem?_set_self hl] at q
      cases q
      exact ⟨v, by rw [List.getElem?_set_self (by rw [← h.1]; exact hl)], r⟩
    · rw [List.getElem?_eq_none (by simp; omega)] at q; cases q
  · rw [List.getElem?_set_ne (Ne.symm hj)] at q
    obtain ⟨u, e1, r1⟩ := h.2 j e q
    exact ⟨u, by rw [List.getElem?_set_ne (Ne.symm hj)]; exact e1, r1⟩
theorem EnvR.kill (h : EnvR K α H ρ σ) (i : Nat) : EnvR K α H (ρ.set i none) σ := by
  refine ⟨by simp [h.1], fun j e q => ?_⟩
  by_cases hj : j = i
  · subst hj
    by_cases hl : j < ρ.length
    · rw [List.getElem?_set_self hl] at q; cases q
    · rw [List.getElem?_eq_none (by simp; omega)] at q; cases q
  · rw [List.getElem?_set_ne (Ne.symm hj)] at q
    exact h.2 j e q
end

/-! ### readings -/
section
variable (G : Gm) (W : WX)
/-- what is wanted behind a result; rp: how the result lies -/
def post {A B : Type} (rp : List Addr → Hp → A → B → Prop) (α : List Addr) (H : Hp) (r : Res A) (σ : L2.St) (Q : B → Hp → Prop) : Prop := match r with
  | .ok a st' => ∀ b α' H', Le α H α' H' → SR G α' st' H' → rp α' H' a b → Q b H'
  | .exc c st' => ∀ α' H', Le α H α' H' → SR G α' st' H' → W (.ref (G.ca c)) none σ H'
  | .stuck => False
def rd {A B : Type} (rp : List Addr → Hp → A → B → Prop) (f : Env → Store → Res A) (σ : L2.St) (H : Hp) (Q : B → Hp → Prop) : Prop :=
  ∃ ρ st α, EnvR G.K α H ρ σ ∧ SR G α st H ∧ post G W rp α H (f ρ st) σ Q
def rpB (_ : List Addr) (_ : Hp) (a b : Bool) : Prop := b = a
abbrev rdE (f : Den) : TE := rd G W (Rep G.K) f
abbrev rdB (f : DenB) : TT := rd G W rpB f
abbrev rdL (f : DenL) : TA := rd G W (RepL G.K) f
def postS (α : List Addr) (H : Hp) (o : Out) (D : Ends) : Prop := match o with
  | .next ρ' st' => ∀ σ' α' H', Le α H α' H' → SR G α' st' H' → EnvR G.K α' H' ρ' σ' → D.nx σ' H'
  | .ret d st' => ∀ v α' H', Le α H α' H' → SR G α' st' H' → Rep G.K α' H' d v → D.rt v H'
  | .brk ρ' st' => ∀ σ' α' H', Le α H α' H' → SR G α' st' H' → EnvR G.K α' H' ρ' σ' → D.bk σ' H'
  | .cont ρ' st' => ∀ σ' α' H', Le α H α' H' → SR G α' st' H' → EnvR G.K α' H' ρ' σ' → D.ct σ' H'
  | .exc c ρ' st' => ∀ σ' α' H', Le α H α' H' → SR G α' st' H' → EnvR G.K α' H' ρ' σ' → W (.ref (G.ca c)) none σ' H'
  | .stuck => False
def rdS (f : DenS) : TS := fun D σ H => ∃ ρ st α, EnvR G.K α H ρ σ ∧ SR G α st H ∧ postS G W α H (f ρ st) D
end
section
variable {G : Gm} {W : WX} {α α' : List Addr} {H H' : Hp} {σ : L2.St}
theorem post.mono {A B : Type} {rp : List Addr → Hp → A → B → Prop} {r : Res A} {Q : B → Hp → Prop} (l : Le α H α' H') (h : post G W rp α H r σ Q) : post G W rp α' H' r σ Q := by
  cases r with
  | ok a st => exact fun b α2 H2 l2 => h b α2 H2 (l.trans l2)
  | exc c st => exact fun α2 H2 l2 => h α2 H2 (l.trans l2)
  | stuck => exact h
theorem post.step {A B A' B' : Type} {rp : List Addr → Hp → A → B → Prop} {rp' : List Addr → Hp → A' → B' → Prop} {r : Res A} {k : A → Store → Res A'} {Q : B' → Hp → Prop} (h : post G W rp' α H (r.bind k) σ Q) :
    post G W rp α H r σ fun b H1 => ∃ a s1 α1, Le α H α1 H1 ∧ SR G α1 s1 H1 ∧ rp α1 H1 a b ∧ post G W rp' α1 H1 (k a s1) σ Q := by
  cases r with
  | ok a st => exact fun b α1 H1 l S R => ⟨a, st, α1, l, S, R, post.mono l h⟩
  | exc c st => exact h
  | stuck => exact h
theorem post.imp {A B : Type} {rp : List Addr → Hp → A → B → Prop} {r : Res A} {Q Q' : B → Hp → Prop} (h : post G W rp α H r σ Q) (i : ∀ b H, Q b H → Q' b H) : post G W rp α H r σ Q' := by
  cases r with
  | ok a st => exact fun b α1 H1 l S R => i _ _ (h b α1 H1 l S R)
  | exc c st => exact h
  | stuck => exact h
theorem postS.mono {o : Out} {D : Ends} (l : Le α H α' H') (h : postS G W α H o D) : postS G W α' H' o D := by
  cases o with
  | next ρ st => exact fun σ α2 H2 l2 => h σ α2 H2 (l.trans l2)
  | ret ρ st => exact fun σ α2 H2 l2 => h σ α2 H2 (l.trans l2)
  | brk ρ st => exact fun σ α2 H2 l2 => h σ α2 H2 (l.trans l2)
  | cont ρ st => exact fun σ α2 H2 l2 => h σ α2 H2 (l.trans l2)
  | exc c ρ st => exact fun σ α2 H2 l2 => h σ α2 H2 (l.trans l2)
  | stuck => exact h
/-- an expression's reading, then what follows -/
theorem rd.step {A B A' B' : Type} {rp : List Addr → Hp → A → B → Prop} {rp' : List Addr → Hp → A' → B' → Prop} {f : Env → Store → Res A} {k : Env → A → Store → Res A'} {Q : B' → Hp → Prop} (h : rd G W rp' (fun ρ st => (f ρ st).bind (k ρ)) σ H Q) :
    rd G W rp f σ H fun b H1 => ∃ ρ a s1 α1, EnvR G.K α1 H1 ρ σ ∧ SR G α1 s1 H1 ∧ rp α1 H1 a b ∧ post G W rp' α1 H1 (k ρ a s1) σ Q := by
  obtain ⟨ρ, st, α, E, S, h⟩ := h
  exact ⟨ρ, st, α, E, S, (post.step h).imp fun b H1 ⟨a, s1, α1, l, S1, R, q⟩ => ⟨ρ, a, s1, α1, E.mono l, S1, R, q⟩⟩
end
/-- where a code runs -/
structure Cm (G : Gm) (X : Cx) (W : WX) (k : Nat) : Prop where
  K : X.K = G.K
  calm : X.calm = true
  pr : X.prog = G.pr
  wd : X.w = G.wd
  room : Room k X.A
  tk : Takes X W
structure DE (G : Gm) (X : Cx) (W : WX) (e : Expr) (f : Den) : Prop where
  pe : PE X e (rdE G W f)
structure DB (G : Gm) (X : Cx) (W : WX) (e : Expr) (f : DenB) : Prop where
  pt : PT X e (rdB G W f)
structure DA (G : Gm) (X : Cx) (W : WX) (es : List Expr) (f : DenL) : Prop where
  pa : PA X es (rdL G W f)
structure DS (G : Gm) (X : Cx) (W : WX) (s : Stmt) (f : DenS) : Prop where
  ps : PS X s (rdS G W f)
structure DSs (G : Gm) (X : Cx) (W : WX) (s : List Stmt) (f : DenS) : Prop where
  ps : PSs X s (rdS G W f)
/-! weakening -/
theorem _root_.L2.PE.imp {X : Cx} {e : Expr} {t t' : TE} (h : PE X e t) (i : ∀ σ H Q, t' σ H Q → t σ H Q) : PE X e t' := ⟨fun p s σ H Q I q => h.run p s σ H Q I (i σ H Q q)⟩
theorem _root_.L2.PT.imp {X : Cx} {e : Expr} {t t' : TT} (h : PT X e t) (i : ∀ σ H Q, t' σ H Q → t σ H Q) : PT X e t' := ⟨fun p s σ H Q I q => h.run p s σ H Q I (i σ H Q q)⟩
theorem _root_.L2.PW.imp {X : Cx} {e : Expr} {t t' : TT} (h : PW X e t) (i : ∀ σ H Q, t' σ H Q → t σ H Q) : PW X e t' := ⟨fun wh p s σ H Q I q => h.run wh p s σ H Q I (i σ H Q q)⟩
theorem _root_.L2.PA.imp {X : Cx} {e : List Expr} {t t' : TA} (h : PA X e t) (i : ∀ σ H Q, t' σ H Q → t σ H Q) : PA X e t' := ⟨fun po p s σ H Q I q => h.run po p s σ H Q I (i σ H Q q)⟩
theorem _root_.L2.PS.imp {X : Cx} {e : Stmt} {t t' : TS} (h : PS X e t) (i : ∀ D σ H, t' D σ H → t D σ H) : PS X e t' := ⟨fun p s σ H D I q => h.run p s σ H D I (i D σ H q)⟩
theorem _root_.L2.PSs.imp {X : Cx} {e : List Stmt} {t t' : TS} (h : PSs X e t) (i : ∀ D σ H, t' D σ H → t D σ H) : PSs X e t' := ⟨fun p s σ H D I q => h.run p s σ H D I (i D σ H q)⟩
theorem _root_.L2.OpR.imp {X : Cx} {f : Value → Value → Sem Value} {r r' : R2} (h : OpR X f r) (i : ∀ x y H Q, r' x y H Q → r x y H Q) : OpR X f r' := fun p s σ H x y v u Q I rx ry q => h p s σ H x y v u Q I rx ry (i x y H Q q)
theorem _root_.L2.UnR.imp {X : Cx} {f : Value → Sem Value} {r r' : V → Hp → VK → Prop} (h : UnR X f r) (i : ∀ x H Q, r' x H Q → r x H Q) : UnR X f r' := fun p s σ H x v Q I rx q => h p s σ H x v Q I rx (i x H Q q)
theorem _root_.L2.CallR.imp {X : Cx} {f : Value} {r r' : List V → Hp → VK → Prop} (h : CallR X f r) (i : ∀ x H Q, r' x H Q → r x H Q) : CallR X f r' := fun p s σ H x v Q I rx q => h p s σ H x v Q I rx (i x H Q q)

/-! ### operations on two data, on one -/
def Res.of {A : Type} (o : Option A) (st : Store) : Res A := match o with
  | some a => .ok a st
  | none => .stuck
/-- how an operation's result is wanted -/
def got (G : Gm) (α : List Addr) (H : Hp) (st : Store) (o : Option D) (Q : VK) : Prop := match o with
  | some r => ∀ v α' H', Le α H α' H' → SR G α' st H' → Rep G.K α' H' r v → Q v H'
  | none => False
abbrev O2 := D → D → Store → Option D
abbrev O1 := D → Store → Option D
abbrev OL := List D → Store → Option D
def rd2 (G : Gm) (o : O2) : R2 := fun x y H Q => ∃ d e st α, SR G α st H ∧ Rep G.K α H d x ∧ Rep G.K α H e y ∧ got G α H st (o d e st) Q
def rd1 (G : Gm) (o : O1) : V → Hp → VK → Prop := fun x H Q => ∃ d st α, SR G α st H ∧ Rep G.K α H d x ∧ got G α H st (o d st) Q
def rdC (G : Gm) (o : OL) : List V → Hp → VK → Prop := fun xs H Q => ∃ ds st α, SR G α st H ∧ RepL G.K α H ds xs ∧ got G α H st (o ds st) Q
def op2 (o : O2) (f g : Den) : Den := fun ρ st => (f ρ st).bind fun a s1 => (g ρ s1).bind fun b s2 => Res.of (o a b s2) s2
def op1 (o : O1) (f : Den) : Den := fun ρ st => (f ρ st).bind fun a s1 => Res.of (o a s1) s1
def opL (o : OL) (f : DenL) : Den := fun ρ st => (f ρ st).bind fun a s1 => Res.of (o a s1) s1
section
variable {G : Gm} {W : WX} {X : Cx} {a b : Expr} {f g : Den} {pos : Pos} {σ : L2.St} {H : Hp} {Q : VK} {α : List Addr} {st : Store}
theorem got.of {o : Option D} (h : post G W (Rep G.K) α H (Res.of o st) σ Q) : got G α H st o Q := by
  cases o with
  | some r => exact h
  | none => exact h
theorem rd2_of {o : O2} (h : rdE G W (op2 o f g) σ H Q) : tOp (rd2 G o) (rdE G W f) (rdE G W g) σ H Q := by
  obtain ⟨ρ, st, α, E, S, h⟩ := h
  refine ⟨ρ, st, α, E, S, (post.step h).imp fun x H1 ⟨d, s1, α1, l, S1, R, q⟩ => ?_⟩
  refine ⟨ρ, s1, α1, E.mono l, S1, (post.step q).imp fun y H2 ⟨e, s2, α2, l2, S2, R2, q2⟩ => ?_⟩
  exact ⟨d, e, s2, α2, S2, R.mono l2, R2, got.of q2⟩
theorem de_op2 {op : Operator} {o : O2} (h : OpR X (binaryOp op) (rd2 G o)) (ha : DE G X W a f) (hb : DE G X W b g) : DE G X W (.BinOp a op b pos) (op2 o f g) :=
  ⟨(pe_op h ha.pe hb.pe).imp fun _ _ _ => rd2_of⟩
theorem de_cmp {op : CmpOp} {o : O2} (h : OpR X (compareOp op) (rd2 G o)) (ha : DE G X W a f) (hb : DE G X W b g) (hm : behindInMarks op b = false) : DE G X W (.Compare a [op] [b] pos) (op2 o f g) :=
  ⟨(pe_cmpR h ha.pe hb.pe hm).imp fun _ _ _ => rd2_of⟩
theorem de_op1 {op : UnaryOp} {o : O1} (h : UnR X (unaryOp op) (rd1 G o)) (ha : DE G X W a f) : DE G X W (.UnaryOp op a pos) (op1 o f) :=
  ⟨(pe_un h ha.pe).imp fun _ _ _ ⟨ρ, st, α, E, S, h⟩ => ⟨ρ, st, α, E, S, (post.step h).imp fun x H1 ⟨d, s1, α1, l, S1, R, q⟩ => ⟨d, s1, α1, S1, R, got.of q⟩⟩⟩
end
end DL

namespace DL
open PySem PySem.Spec PyProof.Rows L2

/-! ### names, constants -/
def varE (i : Nat) : Den := fun ρ st => match ρ[i]? with
  | some (some d) => .ok d st
  | _ => .stuck
def conE (d : D) : Den := fun _ st => .ok d st
section
variable {G : Gm} {W : WX} {X : Cx} {k : Nat}
theorem de_var (i : Nat) {x : Str} {pos : Pos} (hN : X.N[i]? = some x := by rfl) (hv : Vis X.env.scope x := by first | exact Or.inl rfl | exact Or.inr (Or.inl rfl) | exact Or.inr (Or.inr rfl)) (hd : (x == ("__debug__" : Str)) = false := by decide)
    (hcd : (x == ("__classdict__" : Str)) = false := by decide) : DE G X W (.Name x pos) (varE i) := by
  refine ⟨(pe_var (i := i) hN hv hd hcd).imp ?_⟩
  rintro σ H Q ⟨ρ, st, α, E, S, h⟩
  unfold varE at h
  split at h
  · rename_i d e
    obtain ⟨v, e1, r⟩ := E.2 i d e
    exact ⟨v, e1, h v α H Le.refl S r⟩
  · exact h.elim
theorem con_of {d : D} {v : V} {σ : L2.St} {H : Hp} {Q : VK} (hr : ∀ α H, Rep G.K α H d v) (h : rdE G W (conE d) σ H Q) : tC v σ H Q := by
  obtain ⟨ρ, st, α, E, S, h⟩ := h
  exact h v α H Le.refl S (hr α H)
theorem de_int {i j pos} : DE G X W (.Constant (.int i) j pos) (conE (.int i)) := ⟨pe_int.imp fun _ _ _ => con_of fun _ _ => rfl⟩
theorem de_bl {b j pos} : DE G X W (.Constant (.bool b) j pos) (conE (.bl b)) := ⟨pe_bl.imp fun _ _ _ => con_of fun _ _ => rfl⟩
theorem de_non {j pos} : DE G X W (.Constant .none j pos) (conE .non) := ⟨pe_non.imp fun _ _ _ => con_of fun _ _ => rfl⟩
theorem de_str {x j pos} (h : PyData.strOk x = true := by decide +kernel) : DE G X W (.Constant (.str x) j pos) (conE (.str x)) := ⟨pe_str.imp fun _ _ _ => con_of fun _ _ => ⟨rfl, h⟩⟩
end

/-! ### the lists behind data -/
def view (st : Store) : D → Option (List D)
  | .lst xs => some xs
  | .tup xs => some xs
  | .scr ns => some (ns.map D.int)
  | .ref n => match st[n]? with
    | some (.lst xs) => some xs
    | _ => none
  | _ => none
/-- a list, not a tuple -/
def viewL (st : Store) : D → Option (List D)
  | .lst xs => some xs
  | .ref n => match st[n]? with
    | some (.lst xs) => some xs
    | _ => none
  | _ => none
section
variable {G : Gm} {α : List Addr} {H : Hp} {st : Store}
theorem viewL_ok (S : SR G α st H) : ∀ {d : D} {v : V} {xs : List D}, Rep G.K α H d v → viewL st d = some xs → ∃ a vs, v = .ref a ∧ H a = some (.lst vs) ∧ RepL G.K α H xs vs
  | .lst ys, v, xs, h, e => by
    obtain ⟨a, vs, e1, t, r⟩ := (show ∃ a vs, _ ∧ LstAt α H a vs ∧ RepL G.K α H ys vs from h)
    cases (show some ys = some xs from e)
    exact ⟨a, vs, e1, t.2, r⟩
  | .ref n, v, xs, h, e => by
    obtain ⟨a, e1, q⟩ := (show ∃ a, _ ∧ α[n]? = some a from h)
    have e : (match st[n]? with | some (.lst xs) => some xs | _ => none) = some xs := e
    split at e
    · rename_i ys hs
      cases e
      obtain ⟨vs, e2, r⟩ := S.cell n a _ q hs
      exact ⟨a, vs, e1, e2, r⟩
    · cases e
  | .non, _, _, _, e => by cases e
  | .bl _, _, _, _, e => by cases e
  | .int _, _, _, _, e => by cases e
  | .str _, _, _, _, e => by cases e
  | .tup _, _, _, _, e => by cases e
  | .scr _, _, _, _, e => by cases e
  | .ltp _, _, _, _, e => by cases e
theorem view_ok (S : SR G α st H) : ∀ {d : D} {v : V} {xs : List D}, Rep G.K α H d v → view st d = some xs → ∃ a vs, v = .ref a ∧ (SqL G.K H a vs ∨ SqT G.K H a vs) ∧ RepL G.K α H xs vs
  | .lst ys, v, xs, h, e => by
    obtain ⟨a, vs, e1, t, r⟩ := viewL_ok S (d := .lst ys) (xs := xs) h e
    exact ⟨a, vs, e1, .inl (.of t), r⟩
  | .ref n, v, xs, h, e => by
    obtain ⟨a, vs, e1, t, r⟩ := viewL_ok S (d := .ref n) (xs := xs) h e
    exact ⟨a, vs, e1, .inl (.of t), r⟩
  | .tup ys, v, xs, h, e => by
    obtain ⟨a, vs, e1, t, r⟩ := (show ∃ a vs, _ ∧ TupAt G.K α H a vs ∧ RepL G.K α H ys vs from h)
    cases (show some ys = some xs from e)
    exact ⟨a, vs, e1, .inr t.seq, r⟩
  | .ltp _, _, _, _, e => by cases e
  | .scr ns, v, xs, h, e => by
    obtain ⟨a, e1, t⟩ := (show ∃ a, _ ∧ ScrAt G.K α H a (ns.map V.int) from h)
    cases (show some (ns.map D.int) = some xs from e)
    exact ⟨a, _, e1, .inl t.seq, RepL.ints ns⟩
  | .non, _, _, _, e => by cases e
  | .bl _, _, _, _, e => by cases e
  | .int _, _, _, _, e => by cases e
  | .str _, _, _, _, e => by cases e
theorem Rep.tupOf {ys : List D} {v : V} (h : Rep G.K α H (.tup ys) v) : ∃ a vs, v = .ref a ∧ TupAt G.K α H a vs ∧ RepL G.K α H ys vs := h
/-- a new tuple, a new list -/
theorem got.tup {xs : List D} {vs : List V} {Q : VK} (S : SR G α st H) (r : RepL G.K α H xs vs) (h : got G α H st (some (.tup xs)) Q) : ∀ (p : Addr) (o : Obj), H p = none → o.dict = none → Q (.ref p) (upd H p (.frz o (.tup vs))) := fun p o n e =>
  h _ α _ (Le.laid n) (S.laid n) ⟨p, vs, rfl, .inl ⟨S.notIn n, o, upd_same, e⟩, r.mono (Le.laid n)⟩
/-- a tuple is laid, and it is known that it bears no dict -/
theorem lay_tup {X : Cx} {pins : List (Addr × Obj)} {σ : L2.St} {H : Hp} {s : Shared} {Q : VK} {vs : List V} {its : List Value} (I : Inv X pins σ H s) (rv : Vals vs its) (hz : vs.length ≤ sizeLine) (q : ∀ (p : Addr) (o : Obj), H p = none → o.dict = none → Q (.ref p) (upd H p (.frz o (.tup vs)))) {n : Nat} :
    EP X pins σ Q (.ref s.heap.objs.size) { s with heap := s.heap.push { cls := .type "tuple", data := .seq its.toArray n } } :=
  ⟨.ref _, upd H s.heap.objs.size (.frz { cls := .type "tuple", data := .seq its.toArray n } (.tup vs)), I.laid (t' := s.toks) (fun _ _ e => Heap.get?_push_of_some _ e) (Nat.le_refl _) ⟨Heap.get?_push_size _ rfl, hz, its, rv, _, Heap.get?_push_size _ rfl, rfl, n, rfl⟩, rfl, q _ _ (I.hok.fresh (Nat.le_refl _)) rfl⟩
theorem got.lst {xs : List D} {vs : List V} {Q : VK} (S : SR G α st H) (r : RepL G.K α H xs vs) (h : got G α H st (some (.lst xs)) Q) : ∀ p, H p = none → Q (.ref p) (upd H p (.lst vs)) := fun p n =>
  h _ α _ (Le.laid n) (S.laid n) ⟨p, vs, rfl, ⟨S.notIn n, upd_same⟩, r.mono (Le.laid n)⟩
theorem got.here {d : D} {v : V} {Q : VK} (S : SR G α st H) (r : Rep G.K α H d v) (h : got G α H st (some d) Q) : Q v H := h v α H Le.refl S r
end

/-! ### data as the model compares them -/
mutual
def toPy : D → PyData
  | .non => .none
  | .bl b => .bool b
  | .int i => .int i
  | .str x => .str x
  | .tup xs => .tuple (toPyL xs)
  | .lst xs => .list (toPyL xs)
  | .ref _ => .dict []
  | .scr _ => .dict []
  | .ltp _ => .dict []
def toPyL : List D → List PyData
  | [] => []
  | x :: xs => toPy x :: toPyL xs
end
/-! no cells within, no deeper than n -/
mutual
def fits : D → Nat → Bool
  | .tup xs, n => match n with
    | 0 => false
    | n + 1 => fitsL xs n
  | .lst xs, n => match n with
    | 0 => false
    | n + 1 => fitsL xs n
  | .ref _, _ => false
  | .scr _, _ => false
  | .ltp _, _ => false
  | .non, _ => true
  | .bl _, _ => true
  | .int _, _ => true
  | .str _, _ => true
def fitsL : List D → Nat → Bool
  | [], _ => true
  | x :: xs, n => fits x n && fitsL xs n
end
mutual
theorem depth_toPy : ∀ (d : D) (n : Nat), fits d n = true → (toPy d).depth ≤ n
  | .non, _, _ => Nat.zero_le _
  | .bl _, _, _ => Nat.zero_le _
  | .int _, _, _ => Nat.zero_le _
  | .str _, _, _ => Nat.zero_le _
  | .tup xs, 0, h => by cases h
  | .tup xs, n + 1, h => Nat.succ_le_succ (depth_toPyL xs n h)
  | .lst xs, 0, h => by cases h
  | .lst xs, n + 1, h => Nat.succ_le_succ (depth_toPyL xs n h)
  | .ref _, _, h => by cases h
  | .scr _, _, h => by cases h
  | .ltp _, _, h => by cases h
theorem depth_toPyL : ∀ (ds : List D) (n : Nat), fitsL ds n = true → PyData.depthAll (toPyL ds) ≤ n
  | [], _, _ => Nat.zero_le _
  | x :: xs, n, h => by
    obtain ⟨h1, h2⟩ := Bool.and_eq_true_iff.mp (show (fits x n && fitsL xs n) = true from h)
    exact Nat.max_le.mpr ⟨depth_toPy x n h1, depth_toPyL xs n h2⟩
end
mutual
theorem dp_of {K : PySem.W.Frag} {α : List Addr} {H : Hp} : ∀ (d : D) (n : Nat) (v : V), fits d n = true → Rep K α H d v → Dp K H v (toPy d) ∧ PyData.canLay0 (toPy d) = true
  | .non, _, _, _, h => by cases (show _ = V.non from h); exact ⟨.non, rfl⟩
  | .bl b, _, _, _, h => by cases (show _ = V.bl b from h); exact ⟨.bl b, rfl⟩
  | .int i, _, _, _, h => by cases (show _ = V.int i from h); exact ⟨.int i, rfl⟩
  | .str x, _, _, _, h => by
    obtain ⟨e, s⟩ := (show _ = V.str x ∧ PyData.strOk x = true from h)
    subst e
    exact ⟨.str x, s⟩
  | .tup xs, 0, _, f, _ => by cases f
  | .tup xs, n + 1, v, f, h => by
    obtain ⟨a, vs, e, t, r⟩ := (show ∃ a vs, v = V.ref a ∧ TupAt K α H a vs ∧ RepL K α H xs vs from h)
    subst e
    obtain ⟨h1, h2⟩ := dpL_of xs n vs f r
    exact ⟨.tup t.seq h1, h2⟩
  | .lst xs, 0, _, f, _ => by cases f
  | .lst xs, n + 1, v, f, h => by
    obtain ⟨a, vs, e, t, r⟩ := (show ∃ a vs, v = V.ref a ∧ LstAt α H a vs ∧ RepL K α H xs vs from h)
    subst e
    obtain ⟨h1, h2⟩ := dpL_of xs n vs f r
    exact ⟨.lst t.seq h1, h2⟩
  | .ref _, _, _, f, _ => by cases f
  | .scr _, _, _, f, _ => by cases f
  | .ltp _, _, _, f, _ => by cases f
theorem dpL_of {K : PySem.W.Frag} {α : List Addr} {H : Hp} : ∀ (ds : List D) (n : Nat) (vs : List V), fitsL ds n = true → RepL K α H ds vs → DpAll K H vs (toPyL ds) ∧ PyData.canLayAll0 (toPyL ds) = true
  | [], _, _, _, h => by cases (show _ = [] from h); exact ⟨.nil, rfl⟩
  | x :: xs, n, vs, f, h => by
    obtain ⟨v, r, e, h1, h2⟩ := (show ∃ v r, vs = v :: r ∧ Rep K α H x v ∧ RepL K α H xs r from h)
    subst e
    obtain ⟨f1, f2⟩ := Bool.and_eq_true_iff.mp (show (fits x n && fitsL xs n) = true from f)
    obtain ⟨a1, a2⟩ := dp_of x n v f1 h1
    obtain ⟨b1, b2⟩ := dpL_of xs n r f2 h2
    exact ⟨.cons a1 b1, Bool.and_eq_true_iff.mpr ⟨a2, b2⟩⟩
end
def D.eqv (a b : D) : Bool := PyData.eqv (toPy a) (toPy b)
def eqvL (a b : List D) : Bool := PyData.eqvAll (toPyL a) (toPyL b)
/-- a cell's list in the place of the cell -/
def deref (st : Store) (d : D) : D := match d with
  | .ref n => match st[n]? with
    | some (.lst xs) => .lst xs
    | _ => .ref n
  | d => d
theorem dp_deref {G : Gm} {α : List Addr} {H : Hp} {st : Store} (S : SR G α st H) {d : D} {n : Nat} {v : V} (f : fits (deref st d) n = true) (h : Rep G.K α H d v) : Dp G.K H v (toPy (deref st d)) ∧ PyData.canLay0 (toPy (deref st d)) = true := by
  cases d with
  | ref m =>
    obtain ⟨a, e1, q⟩ := (show ∃ a, _ ∧ α[m]? = some a from h)
    unfold deref at f ⊢
    dsimp only at f ⊢
    split
    · rename_i xs hs
      obtain ⟨vs, e2, r⟩ := S.cell m a _ q hs
      rw [hs] at f
      cases n with
      | zero => cases f
      | succ n =>
        obtain ⟨h1, h2⟩ := dpL_of xs n vs f r
        rw [e1]
        exact ⟨.lst (.of e2) h1, h2⟩
    · rename_i hno
      split at f
      · rename_i xs hs; exact absurd hs (hno xs)
      · cases f
  | _ => exact dp_of _ n v f h
def eqD : O2 := fun a b st => if fits (deref st a) 60 && fits (deref st b) 60 then some (.bl (D.eqv (deref st a) (deref st b))) else none
def neD : O2 := fun a b st => if fits (deref st a) 60 && fits (deref st b) 60 then some (.bl (!D.eqv (deref st a) (deref st b))) else none
section
variable {G : Gm} {W : WX} {X : Cx} {k : Nat}
theorem shaped_of {d : PyData} {n : Nat} (h : PyData.canLay0 d = true) (hd : d.depth ≤ n) (hn : n ≤ 64) : SeqAt.shaped d = true :=
  Bool.and_eq_true_iff.mpr ⟨h, decide_eq_true (Nat.le_trans hd hn)⟩
theorem op_eq2 (C : Cm G X W k) : OpR X (compareOp .Eq) (rd2 G eqD) := (op_eqD C.room.units).imp fun x y H Q ⟨d, e, st, α, S, r1, r2, g⟩ => by
  unfold eqD at g
  split at g
  · rename_i hf
    obtain ⟨f1, f2⟩ := Bool.and_eq_true_iff.mp hf
    obtain ⟨p1, c1⟩ := dp_deref S f1 r1
    obtain ⟨p2, c2⟩ := dp_deref S f2 r2
    rw [C.K]
    exact ⟨_, _, p1, p2, shaped_of c1 (depth_toPy _ _ f1) (by decide), shaped_of c2 (depth_toPy _ _ f2) (by decide), got.here (d := .bl _) S rfl g⟩
  · exact g.elim
theorem op_ne2 (C : Cm G X W k) : OpR X (compareOp .NotEq) (rd2 G neD) := (op_neD C.room.units).imp fun x y H Q ⟨d, e, st, α, S, r1, r2, g⟩ => by
  unfold neD at g
  split at g
  · rename_i hf
    obtain ⟨f1, f2⟩ := Bool.and_eq_true_iff.mp hf
    obtain ⟨p1, c1⟩ := dp_deref S f1 r1
    obtain ⟨p2, c2⟩ := dp_deref S f2 r2
    rw [C.K]
    exact ⟨_, _, p1, p2, shaped_of c1 (depth_toPy _ _ f1) (by decide), shaped_of c2 (depth_toPy _ _ f2) (by decide), got.here (d := .bl _) S rfl g⟩
  · exact g.elim
end
end DL

namespace DL
open PySem PySem.Spec PyProof.Rows L2
/-! ### order -/
mutual
def ordOk : D → D → Bool
  | .int _, e => match e with
    | .int _ => true
    | _ => false
  | .tup xs, e => match e with
    | .tup ys => ordOkL xs ys
    | _ => false
  | _, _ => false
def ordOkL : List D → List D → Bool
  | [], _ => true
  | x :: xs, l => match l with
    | [] => true
    | y :: ys => (D.eqv x y || ordOk x y) && ordOkL xs ys
end
mutual
def dlt : D → D → Bool
  | .int i, e => match e with
    | .int j => decide (i < j)
    | _ => false
  | .tup xs, e => match e with
    | .tup ys => dltL xs ys
    | _ => false
  | _, _ => false
def dltL : List D → List D → Bool
  | [], l => match l with
    | [] => false
    | _ :: _ => true
  | x :: xs, l => match l with
    | [] => false
    | y :: ys => if D.eqv x y = true then dltL xs ys else dlt x y
end
mutual
def dgt : D → D → Bool
  | .int i, e => match e with
    | .int j => decide (j < i)
    | _ => false
  | .tup xs, e => match e with
    | .tup ys => dgtL xs ys
    | _ => false
  | _, _ => false
def dgtL : List D → List D → Bool
  | [], _ => false
  | x :: xs, l => match l with
    | [] => true
    | y :: ys => if D.eqv x y = true then dgtL xs ys else dgt x y
end
theorem lexAt_lt {z : Bool} {e r : Nat → Bool} : ∀ (xs ys : List D) (i : Nat), (∀ j (h1 : j < xs.length) (h2 : j < ys.length), e (i + j) = D.eqv xs[j] ys[j] ∧ (e (i + j) = false → r (i + j) = dlt xs[j] ys[j])) →
    z = decide (xs.length < ys.length) → Ob.lexAt e r z i (min xs.length ys.length) = dltL xs ys
  | [], [], i, h, hz => by rw [hz]; rfl
  | [], y :: ys, i, h, hz => by
    rw [hz]
    show Ob.lexAt e r _ i (min 0 _) = true
    rw [Nat.zero_min, Ob.lexAt_zero]
    simp
  | x :: xs, [], i, h, hz => by
    rw [hz]
    show Ob.lexAt e r _ i (min _ 0) = false
    rw [Nat.min_zero, Ob.lexAt_zero]
    simp
  | x :: xs, y :: ys, i, h, hz => by
    obtain ⟨h1, h2⟩ := h 0 (by simp) (by simp)
    rw [show min (x :: xs).length (y :: ys).length = min xs.length ys.length + 1 by simp only [List.length_cons]; omega, Ob.lexAt_succ]
    have ih := lexAt_lt (z := z) (e := e) (r := r) xs ys (i + 1) (fun j a b => by
      have := h (j + 1) (by simpa using a) (by simpa using b)
      rw [show i + 1 + j = i + (j + 1) by omega]
      simpa using this) (by rw [hz]; simp)
    have h1 : e i = D.eqv x y := h1
    rw [ih]
    show _ = if D.eqv x y = true then dltL xs ys else dlt x y
    rw [h1]
    cases hb : D.eqv x y with
    | true => rfl
    | false => exact h2 (h1.trans hb)
theorem lexAt_gt {z : Bool} {e r : Nat → Bool} : ∀ (xs ys : List D) (i : Nat), (∀ j (h1 : j < xs.length) (h2 : j < ys.length), e (i + j) = D.eqv xs[j] ys[j] ∧ (e (i + j) = false → r (i + j) = dgt xs[j] ys[j])) →
    z = decide (xs.length > ys.length) → Ob.lexAt e r z i (min xs.length ys.length) = dgtL xs ys
  | [], [], i, h, hz => by rw [hz]; rfl
  | [], y :: ys, i, h, hz => by
    rw [hz]
    show Ob.lexAt e r _ i (min 0 _) = false
    rw [Nat.zero_min, Ob.lexAt_zero]
    simp
  | x :: xs, [], i, h, hz => by
    rw [hz]
    show Ob.lexAt e r _ i (min _ 0) = true
    rw [Nat.min_zero, Ob.lexAt_zero]
    simp
  | x :: xs, y :: ys, i, h, hz => by
    obtain ⟨h1, h2⟩ := h 0 (by simp) (by simp)
    rw [show min (x :: xs).length (y :: ys).length = min xs.length ys.length + 1 by simp only [List.length_cons]; omega, Ob.lexAt_succ]
    have ih := lexAt_gt (z := z) (e := e) (r := r) xs ys (i + 1) (fun j a b => by
      have := h (j + 1) (by simpa using a) (by simpa using b)
      rw [show i + 1 + j = i + (j + 1) by omega]
      simpa using this) (by rw [hz]; simp)
    have h1 : e i = D.eqv x y := h1
    rw [ih]
    show _ = if D.eqv x y = true then dgtL xs ys else dgt x y
    rw [h1]
    cases hb : D.eqv x y with
    | true => rfl
    | false => exact h2 (h1.trans hb)
theorem fitsL_at : ∀ {ds : List D} {n j : Nat} (h : j < ds.length), fitsL ds n = true → fits ds[j] n = true
  | x :: xs, n, 0, _, f => (Bool.and_eq_true_iff.mp (show (fits x n && fitsL xs n) = true from f)).1
  | x :: xs, n, j + 1, h, f => fitsL_at (j := j) (by simpa using h) (Bool.and_eq_true_iff.mp (show (fits x n && fitsL xs n) = true from f)).2
section
variable {X : Cx} {pins : List (Addr × Obj)} {σ : L2.St} {H : Hp} {s : Shared} {α : List Addr}
theorem rep_eqAt (I : Inv X pins σ H s) {d e : D} {n : Nat} {v w : V} {u u' : Value} {A : Around} (hd : Rep X.K α H d v) (he : Rep X.K α H e w) (r1 : RelV v u) (r2 : RelV w u') (f1 : fits d n = true) (f2 : fits e n = true) (hu : A.units + n < cLine) :
    SeqAt.EqAt A s u u' (D.eqv d e) := by
  obtain ⟨p1, c1⟩ := dp_of d n v f1 hd
  obtain ⟨p2, c2⟩ := dp_of e n w f2 he
  obtain ⟨as, q1⟩ := Dp.reads I _ v u p1 r1
  obtain ⟨bs, q2⟩ := Dp.reads I _ w u' p2 r2
  refine SeqAt.eqAt_reads (toPy d) (toPy e) A s u u' as bs q1 q2 c1 c2 ?_
  have := depth_toPy d n f1
  have h2 : min (toPy d).depth (toPy e).depth ≤ (toPy d).depth := Nat.min_le_left _ _
  omega
theorem ordOkL_at : ∀ {xs ys : List D} {j : Nat} (h1 : j < xs.length) (h2 : j < ys.length), ordOkL xs ys = true → D.eqv xs[j] ys[j] = true ∨ ordOk xs[j] ys[j] = true
  | x :: xs, y :: ys, 0, _, _, h => by
    have h : ((D.eqv x y || ordOk x y) && ordOkL xs ys) = true := h
    exact Bool.or_eq_true_iff.mp (Bool.and_eq_true_iff.mp h).1
  | x :: xs, y :: ys, j + 1, h1, h2, h => by
    have h : ((D.eqv x y || ordOk x y) && ordOkL xs ys) = true := h
    exact ordOkL_at (j := j) (by simpa using h1) (by simpa using h2) (Bool.and_eq_true_iff.mp h).2
theorem vals_at {vs : List V} {us : List Value} (r : Vals vs us) {j : Nat} (h : j < us.length) : ∃ v, vs[j]? = some v ∧ RelV v us[j] := by
  have hv : j < vs.length := by rw [r.length]; exact h
  obtain ⟨u, e, q⟩ := r.get (List.getElem?_eq_getElem hv)
  rw [List.getElem?_eq_getElem h] at e
  cases e
  exact ⟨_, List.getElem?_eq_getElem hv, q⟩
theorem rc_lt (I : Inv X pins σ H s) : ∀ (n : Nat) (d e : D) (A : Around) (v w : V) (u u' : Value), Rep X.K α H d v → Rep X.K α H e w → RelV v u → RelV w u' → fits d n = true → fits e n = true → ordOk d e = true → A.units + n < cLine →
    Ob.RcOp .Lt A s u u' (dlt d e) ∧ Ob.RcOp .Gt A s u u' (dgt d e) := by
  intro n
  induction n with
  | zero =>
    intro d e A v w u u' h1 h2 r1 r2 f1 f2 o hu
    cases d with
    | int i =>
      cases e with
      | int j =>
        cases (show v = V.int i from h1)
        cases (show w = V.int j from h2)
        obtain ⟨t, rfl⟩ := r1
        obtain ⟨t', rfl⟩ := r2
        exact ⟨Ob.RcOp.lt_int i j t t', Ob.RcOp.gt_int i j t t'⟩
      | _ => cases o
    | tup xs => cases f1
    | _ => cases o
  | succ n ih =>
    intro d e A v w u u' h1 h2 r1 r2 f1 f2 o hu
    cases d with
    | int i =>
      cases e with
      | int j =>
        cases (show v = V.int i from h1)
        cases (show w = V.int j from h2)
        obtain ⟨t, rfl⟩ := r1
        obtain ⟨t', rfl⟩ := r2
        exact ⟨Ob.RcOp.lt_int i j t t', Ob.RcOp.gt_int i j t t'⟩
      | _ => cases o
    | tup xs =>
      cases e with
      | tup ys =>
        obtain ⟨a, vs, rfl, t1, q1⟩ := h1.tupOf (G := ⟨X.K, fun _ => 0, X.prog, X.w⟩)
        obtain ⟨b, ws, rfl, t2, q2⟩ := h2.tupOf (G := ⟨X.K, fun _ => 0, X.prog, X.w⟩)
        cases r1
        cases r2
        obtain ⟨its, rv, p1, _⟩ := I.tuple t1.seq
        obtain ⟨its2, rv2, p2, _⟩ := I.tuple t2.seq
        have l1 : its.toArray.size = xs.length := by rw [List.size_toArray, ← rv.length, q1.len]
        have l2 : its2.toArray.size = ys.length := by rw [List.size_toArray, ← rv2.length, q2.len]
        have o : ordOkL xs ys = true := o
        have each : ∀ j (h1 : j < its.toArray.size) (h2 : j < its2.toArray.size), ∃ v w, Rep X.K α H (xs[j]'(by omega)) v ∧ Rep X.K α H (ys[j]'(by omega)) w ∧ RelV v its.toArray[j] ∧ RelV w its2.toArray[j] := fun j h1 h2 => by
          obtain ⟨v, e1, a1⟩ := vals_at rv (j := j) (by simpa using h1)
          obtain ⟨w, e2, a2⟩ := vals_at rv2 (j := j) (by simpa using h2)
          obtain ⟨d, e3, a3⟩ := RepL.got q1 e1
          obtain ⟨e, e4, a4⟩ := RepL.got q2 e2
          rw [List.getElem?_eq_getElem (by omega)] at e3 e4
          cases e3
          cases e4
          exact ⟨v, w, a3, a4, by simpa using a1, by simpa using a2⟩
        have hu1 : A.in1.units + n < cLine := by show A.units + 1 + n < cLine; omega
        have heq : ∀ j (h1 : j < its.toArray.size) (h2 : j < its2.toArray.size), SeqAt.EqAt A.in1 s its.toArray[j] its2.toArray[j] ((fun j => D.eqv (xs.getD j .non) (ys.getD j .non)) j) := fun j h1 h2 => by
          obtain ⟨v, w, a1, a2, b1, b2⟩ := each j h1 h2
          have e1 : xs.getD j .non = xs[j]'(by omega) := by simp [List.getD, List.getElem?_eq_getElem (show j < xs.length by omega)]
          have e2 : ys.getD j .non = ys[j]'(by omega) := by simp [List.getD, List.getElem?_eq_getElem (show j < ys.length by omega)]
          show SeqAt.EqAt A.in1 s its.toArray[j] its2.toArray[j] (D.eqv (xs.getD j .non) (ys.getD j .non))
          rw [e1, e2]
          exact rep_eqAt I a1 a2 b1 b2 (fitsL_at (by omega) f1) (fitsL_at (by omega) f2) hu1
        have hcmp : ∀ j (h1 : j < its.toArray.size) (h2 : j < its2.toArray.size), D.eqv (xs.getD j .non) (ys.getD j .non) = false → Ob.RcOp .Lt A.in1 s its.toArray[j] its2.toArray[j] (dlt (xs.getD j .non) (ys.getD j .non)) ∧ Ob.RcOp .Gt A.in1 s its.toArray[j] its2.toArray[j] (dgt (xs.getD j .non) (ys.getD j .non)) := fun j h1 h2 hn => by
          obtain ⟨v, w, a1, a2, b1, b2⟩ := each j h1 h2
          have e1 : xs.getD j .non = xs[j]'(by omega) := by simp [List.getD, List.getElem?_eq_getElem (show j < xs.length by omega)]
          have e2 : ys.getD j .non = ys[j]'(by omega) := by simp [List.getD, List.getElem?_eq_getElem (show j < ys.length by omega)]
          rw [e1, e2] at hn ⊢
          refine ih _ _ A.in1 v w _ _ a1 a2 b1 b2 (fitsL_at (by omega) f1) (fitsL_at (by omega) f2) ?_ hu1
          rcases ordOkL_at (j := j) (by omega) (by omega) o with z | z
          · rw [z] at hn; cases hn
          · exact z
        have at_ : ∀ j (h1 : j < xs.length) (h2 : j < ys.length), xs.getD j .non = xs[j] ∧ ys.getD j .non = ys[j] := fun j h1 h2 => ⟨by simp [List.getD, h1], by simp [List.getD, h2]⟩
        refine ⟨?_, ?_⟩
        · have R := Ob.RcOp.tuples_lt (A := A) (s := s) (e := fun j => D.eqv (xs.getD j .non) (ys.getD j .non)) (r := fun j => dlt (xs.getD j .non) (ys.getD j .non)) p1 p2 (by omega) heq fun j h1 h2 hn => (hcmp j h1 h2 hn).1
          rw [l1, l2] at R
          rw [lexAt_lt xs ys 0 (fun j a b => by simp only [Nat.zero_add]; rw [(at_ j a b).1, (at_ j a b).2]; exact ⟨rfl, fun _ => rfl⟩) rfl] at R
          exact R
        · have R := Ob.RcOp.tuples_gt (A := A) (s := s) (e := fun j => D.eqv (xs.getD j .non) (ys.getD j .non)) (r := fun j => dgt (xs.getD j .non) (ys.getD j .non)) p1 p2 (by omega) heq fun j h1 h2 hn => (hcmp j h1 h2 hn).2
          rw [l1, l2] at R
          rw [lexAt_gt xs ys 0 (fun j a b => by simp only [Nat.zero_add]; rw [(at_ j a b).1, (at_ j a b).2]; exact ⟨rfl, fun _ => rfl⟩) rfl] at R
          exact R
      | _ => cases o
    | _ => cases o
end
def ltD : O2 := fun a b _ => if fits a 60 && fits b 60 && ordOk a b then some (.bl (dlt a b)) else none
def gtD : O2 := fun a b _ => if fits a 60 && fits b 60 && ordOk a b then some (.bl (dgt a b)) else none
def leD : O2 := fun a b _ => match a, b with
  | .int i, .int j => some (.bl (decide (i ≤ j)))
  | _, _ => none
def geD : O2 := fun a b _ => match a, b with
  | .int i, .int j => some (.bl (decide (j ≤ i)))
  | _, _ => none
section
variable {G : Gm} {W : WX} {X : Cx} {k : Nat}
theorem op_lt2 (C : Cm G X W k) : OpR X (compareOp .Lt) (rd2 G ltD) := by
  intro pins s σ H x y v u Q I rx ry ⟨d, e, st, α, S, r1, r2, g⟩
  unfold ltD at g
  split at g
  · rename_i hf
    obtain ⟨hf, o⟩ := Bool.and_eq_true_iff.mp hf
    obtain ⟨f1, f2⟩ := Bool.and_eq_true_iff.mp hf
    have hu := C.room.units
    rw [← C.K] at r1 r2
    exact (rc_lt I 60 d e X.A x y v u r1 r2 rx ry f1 f2 o (by omega)).1 X.prog X.w X.xe (EP X pins σ Q) ⟨.bl _, H, I, rfl, got.here (d := .bl _) S rfl g⟩
  · exact g.elim
theorem op_gt2 (C : Cm G X W k) : OpR X (compareOp .Gt) (rd2 G gtD) := by
  intro pins s σ H x y v u Q I rx ry ⟨d, e, st, α, S, r1, r2, g⟩
  unfold gtD at g
  split at g
  · rename_i hf
    obtain ⟨hf, o⟩ := Bool.and_eq_true_iff.mp hf
    obtain ⟨f1, f2⟩ := Bool.and_eq_true_iff.mp hf
    have hu := C.room.units
    rw [← C.K] at r1 r2
    exact (rc_lt I 60 d e X.A x y v u r1 r2 rx ry f1 f2 o (by omega)).2 X.prog X.w X.xe (EP X pins σ Q) ⟨.bl _, H, I, rfl, got.here (d := .bl _) S rfl g⟩
  · exact g.elim
theorem op_le2 : OpR X (compareOp .LtE) (rd2 G leD) := op_le.imp fun x y H Q ⟨d, e, st, α, S, r1, r2, g⟩ => by
  unfold leD at g
  split at g
  · cases (show x = _ from r1)
    cases (show y = _ from r2)
    exact ⟨_, _, rfl, rfl, got.here (d := .bl _) S rfl g⟩
  · exact g.elim
theorem op_ge2 : OpR X (compareOp .GtE) (rd2 G geD) := op_ge.imp fun x y H Q ⟨d, e, st, α, S, r1, r2, g⟩ => by
  unfold geD at g
  split at g
  · cases (show x = _ from r1)
    cases (show y = _ from r2)
    exact ⟨_, _, rfl, rfl, got.here (d := .bl _) S rfl g⟩
  · exact g.elim
end
end DL

namespace DL
open PySem PySem.Spec PyProof.Rows L2

/-! ### truth, tests -/
def truD (d : D) (st : Store) : Option Bool := match d with
  | .non => some false
  | .bl b => some b
  | .int i => some (i != 0)
  | .str x => if x.length ≤ sizeLine then some ((x.length : Int) != 0) else none
  | d => (view st d).map fun xs => !xs.isEmpty
def tru (f : Den) : DenB := fun ρ st => (f ρ st).bind fun d s => Res.of (truD d s) s
def andB (f g : DenB) : DenB := fun ρ st => (f ρ st).bind fun b s => if b = true then g ρ s else .ok false s
def orB (f g : DenB) : DenB := fun ρ st => (f ρ st).bind fun b s => if b = true then .ok true s else g ρ s
def notB (f : DenB) : DenB := fun ρ st => (f ρ st).bind fun b s => .ok (!b) s
/-- a test's value -/
def valE (f : DenB) : Den := fun ρ st => (f ρ st).bind fun b s => .ok (.bl b) s
def andE (f g : Den) : Den := fun ρ st => (f ρ st).bind fun d s => (Res.of (truD d s) s).bind fun b s => if b = true then g ρ s else .ok d s
def orE (f g : Den) : Den := fun ρ st => (f ρ st).bind fun d s => (Res.of (truD d s) s).bind fun b s => if b = true then .ok d s else g ρ s
def notE (f : Den) : Den := fun ρ st => (f ρ st).bind fun d s => (Res.of (truD d s) s).bind fun b s => .ok (.bl (!b)) s
def ifE (c : DenB) (f g : Den) : Den := fun ρ st => (c ρ st).bind fun b s => if b = true then f ρ s else g ρ s
def linkE (o' : O2) (h : Den) (ρ : Env) (b : D) (z : D) (s3 : Store) : Res D := match z with
  | .bl true => (h ρ s3).bind fun c s4 => Res.of (o' b c s4) s4
  | .bl false => .ok (.bl false) s3
  | _ => .stuck
def chainE (o o' : O2) (f g h : Den) : Den := fun ρ st => (f ρ st).bind fun a s1 => (g ρ s1).bind fun b s2 => (Res.of (o a b s2) s2).bind fun z s3 => linkE o' h ρ b z s3
section
variable {G : Gm} {W : WX} {X : Cx} {k : Nat} {α : List Addr} {H : Hp} {st : Store}
theorem isEmpty_rep {xs : List D} {vs : List V} (r : RepL G.K α H xs vs) : xs.isEmpty = vs.isEmpty := by
  have := r.len
  cases xs <;> cases vs <;> first | rfl | simp at this
theorem truV_view (S : SR G α st H) {d : D} {v : V} {xs : List D} (r : Rep G.K α H d v) (e : view st d = some xs) : TruV G.K v H (!xs.isEmpty) := by
  obtain ⟨a, vs, e1, t, q⟩ := view_ok S r e
  subst e1
  rcases t with t | t
  · exact .inl ⟨vs, t, by rw [isEmpty_rep q]⟩
  · exact .inr (.inl ⟨vs, t, by rw [isEmpty_rep q]⟩)
theorem tru_of (S : SR G α st H) : ∀ {d : D} {v : V} {b : Bool}, Rep G.K α H d v → truD d st = some b → TruV G.K v H b
  | .non, _, _, r, e => by cases (show _ = V.non from r); cases e; rfl
  | .bl c, _, _, r, e => by cases (show _ = V.bl c from r); cases e; rfl
  | .int i, _, _, r, e => by cases (show _ = V.int i from r); cases e; rfl
  | .str x, _, _, r, e => by
    obtain ⟨e1, _⟩ := (show _ = V.str x ∧ _ from r)
    subst e1
    have e : (if x.length ≤ sizeLine then some ((x.length : Int) != 0) else none) = some _ := e
    split at e
    · rename_i hl
      cases e
      exact ⟨hl, rfl⟩
    · cases e
  | .tup xs, _, _, r, e => by
    cases (show some (!xs.isEmpty) = some _ from e)
    exact truV_view S r rfl
  | .lst xs, _, _, r, e => by
    cases (show some (!xs.isEmpty) = some _ from e)
    exact truV_view S r rfl
  | .ltp _, _, _, r, e => by cases e
  | .scr ns, _, _, r, e => by
    cases (show some (!(ns.map D.int).isEmpty) = some _ from e)
    exact truV_view S r rfl
  | .ref n, _, _, r, e => by
    have e : (view st (.ref n)).map (fun xs => !xs.isEmpty) = some _ := e
    cases hv : view st (.ref n) with
    | none => rw [hv] at e; cases e
    | some xs =>
      rw [hv] at e
      cases e
      exact truV_view S r hv
/-- a test behind an expression's value -/
theorem tru_step {f : Env → Store → Res D} {σ : L2.St} {A B : Type} {rp : List Addr → Hp → A → B → Prop} {kk : D → Bool → Store → Res A} {Q : B → Hp → Prop} {d : D} {v : V} (S : SR G α st H) (r : Rep G.K α H d v)
    (h : post G W rp α H ((Res.of (truD d st) st).bind (kk d)) σ Q) : ∃ b, TruV G.K v H b ∧ truD d st = some b ∧ post G W rp α H (kk d b st) σ Q := by
  cases e : truD d st with
  | none => rw [e] at h; exact h.elim
  | some b => rw [e] at h; exact ⟨b, tru_of S r e, rfl, h⟩
variable {a b c : Expr} {rest : List Expr} {f g h : Den} {tb ub : DenB} {pos : Pos} {t u : TE}
theorem db_tru (C : Cm G X W k) (ha : DE G X W a f) (he : ∀ whole, isTrue a X.env whole = (do let v ← whole; standAt a.pos; holding [v] (truthy v)) := by intro _; rfl) : DB G X W a (tru f) := by
  refine ⟨(pt_truth ha.pe he).imp ?_⟩
  intro σ H Q hq
  obtain ⟨ρ, st, α, E, S, q⟩ := hq
  refine ⟨ρ, st, α, E, S, (post.step q).imp fun v H1 ⟨d, s1, α1, l, S1, r, q1⟩ => ?_⟩
  cases e : truD d s1 with
  | none => rw [e] at q1; exact q1.elim
  | some b =>
    rw [e] at q1
    rw [C.K]
    exact ⟨b, tru_of S1 r e, q1 b α1 H1 Le.refl S1 rfl⟩
/-- a comparison as a test: what tests of values whose kind is a truth ask -/
theorem tTest_of {f : Den} {σ : L2.St} {H : Hp} {Q : Bool → Hp → Prop} (hf : ∀ ρ st d s, f ρ st = .ok d s → ∃ b, d = .bl b) (h : rdB G W (tru f) σ H Q) : rdE G W f σ H fun x H1 => ∃ k, x = .bl k ∧ Q k H1 := by
  obtain ⟨ρ, st, α, E, S, q⟩ := h
  refine ⟨ρ, st, α, E, S, ?_⟩
  unfold tru at q
  cases e : f ρ st with
  | ok d s =>
    rw [e] at q
    obtain ⟨b, rfl⟩ := hf _ _ _ _ e
    exact fun v α1 H1 l S1 r => ⟨b, r, q b α1 H1 l S1 rfl⟩
  | exc c s => rw [e] at q; exact q
  | stuck => rw [e] at q; exact q
/-- an operation that tells a truth -/
def Tells (o : O2) : Prop := ∀ a b st d, o a b st = some d → ∃ c, d = .bl c
theorem tells_eq : Tells eqD := fun a b st d h => by
  unfold eqD at h; split at h
  · cases h; exact ⟨_, rfl⟩
  · cases h
theorem tells_ne : Tells neD := fun a b st d h => by
  unfold neD at h; split at h
  · cases h; exact ⟨_, rfl⟩
  · cases h
theorem tells_lt : Tells ltD := fun a b st d h => by
  unfold ltD at h; split at h
  · cases h; exact ⟨_, rfl⟩
  · cases h
theorem tells_gt : Tells gtD := fun a b st d h => by
  unfold gtD at h; split at h
  · cases h; exact ⟨_, rfl⟩
  · cases h
theorem tells_le : Tells leD := fun a b st d h => by
  unfold leD at h; split at h
  · cases h; exact ⟨_, rfl⟩
  · cases h
theorem tells_ge : Tells geD := fun a b st d h => by
  unfold geD at h; split at h
  · cases h; exact ⟨_, rfl⟩
  · cases h
theorem op2_bl {o : O2} (ho : Tells o) {f g : Den} : ∀ ρ st d s, op2 o f g ρ st = .ok d s → ∃ b, d = .bl b := by
  intro ρ st d s e
  unfold op2 at e
  cases h1 : f ρ st with
  | ok x s1 =>
    rw [h1, Res.bind_ok] at e
    cases h2 : g ρ s1 with
    | ok y s2 =>
      rw [h2, Res.bind_ok] at e
      cases h3 : o x y s2 with
      | some z => rw [h3] at e; cases e; exact ho _ _ _ _ h3
      | none => rw [h3] at e; cases e
    | exc c s2 => rw [h2] at e; cases e
    | stuck => rw [h2] at e; cases e
  | exc c s1 => rw [h1] at e; cases e
  | stuck => rw [h1] at e; cases e
theorem db_cmp {op : CmpOp} {o : O2} (h : OpR X (compareOp op) (rd2 G o)) (ho : Tells o) (ha : DE G X W a f) (hb : DE G X W b g) (hm : behindInMarks op b = false) : DB G X W (.Compare a [op] [b] pos) (tru (op2 o f g)) :=
  ⟨(pt_cmpR h ha.pe hb.pe hm).imp fun σ H Q hq => rd2_of (tTest_of (op2_bl ho) hq)⟩
theorem chain_bl {o o' : O2} (ho' : Tells o') {f g h : Den} : ∀ ρ st d s, chainE o o' f g h ρ st = .ok d s → ∃ b, d = .bl b := by
  intro ρ st d s e
  unfold chainE at e
  cases h1 : f ρ st with
  | ok x s1 =>
    rw [h1, Res.bind_ok] at e
    cases h2 : g ρ s1 with
    | ok y s2 =>
      rw [h2, Res.bind_ok] at e
      cases h3 : o x y s2 with
      | some z =>
        rw [h3] at e
        have e : linkE o' h ρ y z s2 = Res.ok d s := e
        unfold linkE at e
        split at e
        · cases h4 : h ρ s2 with
          | ok w s4 =>
            rw [h4, Res.bind_ok] at e
            cases h5 : o' y w s4 with
            | some z => rw [h5] at e; cases e; exact ho' _ _ _ _ h5
            | none => rw [h5] at e; cases e
          | exc c s4 => rw [h4] at e; cases e
          | stuck => rw [h4] at e; cases e
        · cases e; exact ⟨_, rfl⟩
        · cases e
      | none => rw [h3] at e; cases e
    | exc c s2 => rw [h2] at e; cases e
    | stuck => rw [h2] at e; cases e
  | exc c s1 => rw [h1] at e; cases e
  | stuck => rw [h1] at e; cases e
theorem chain_of {o o' : O2} {σ : L2.St} {H : Hp} {Q : VK} (hq : rdE G W (chainE o o' f g h) σ H Q) : tChain (rd2 G o) (rd2 G o') (rdE G W f) (rdE G W g) (rdE G W h) σ H Q := by
  obtain ⟨ρ, st, α, E, S, q⟩ := hq
  refine ⟨ρ, st, α, E, S, (post.step q).imp fun x H1 ⟨d, s1, α1, l, S1, R, q⟩ => ?_⟩
  refine ⟨ρ, s1, α1, E.mono l, S1, (post.step q).imp fun y H2 ⟨e, s2, α2, l2, S2, R2, q2⟩ => ?_⟩
  refine ⟨d, e, s2, α2, S2, R.mono l2, R2, ?_⟩
  cases ho : o d e s2 with
  | none => rw [ho] at q2; exact q2.elim
  | some z =>
    rw [ho] at q2
    intro v α3 H3 l3 S3 R3
    have q2 : post G W (Rep G.K) α2 H2 (linkE o' h ρ e z s2) σ Q := q2
    unfold linkE at q2
    split at q2
    · cases (show v = V.bl true from R3)
      refine ⟨true, rfl, ?_⟩
      rw [if_pos rfl]
      refine ⟨ρ, s2, α3, (E.mono (l.trans l2)).mono l3, S3, (post.step (post.mono l3 q2)).imp fun w H4 ⟨c, s4, α4, l4, S4, R4, q4⟩ => ?_⟩
      exact ⟨e, c, s4, α4, S4, (R2.mono l3).mono l4, R4, got.of q4⟩
    · cases (show v = V.bl false from R3)
      refine ⟨false, rfl, ?_⟩
      rw [if_neg Bool.false_ne_true]
      exact q2 _ α3 H3 l3 S3 rfl
    · exact q2.elim
theorem de_chain {op op' : CmpOp} {o o' : O2} (h1 : OpR X (compareOp op) (rd2 G o)) (h2 : OpR X (compareOp op') (rd2 G o')) (ha : DE G X W a f) (hb : DE G X W b g) (hc : DE G X W c h)
    (hm : lastMarks [op, op'] [b, c] = false := by with_unfolding_all rfl) : DE G X W (.Compare a [op, op'] [b, c] pos) (chainE o o' f g h) :=
  ⟨(pe_chain h1 h2 ha.pe hb.pe hc.pe hm).imp fun _ _ _ => chain_of⟩
theorem db_chain {op op' : CmpOp} {o o' : O2} (h1 : OpR X (compareOp op) (rd2 G o)) (h2 : OpR X (compareOp op') (rd2 G o')) (ho' : Tells o') (ha : DE G X W a f) (hb : DE G X W b g) (hc : DE G X W c h)
    (hm : lastMarks [op, op'] [b, c] = false := by with_unfolding_all rfl) : DB G X W (.Compare a [op, op'] [b, c] pos) (tru (chainE o o' f g h)) :=
  ⟨(pt_chain h1 h2 ha.pe hb.pe hc.pe hm).imp fun σ H Q hq => chain_of (tTest_of (chain_bl ho') hq)⟩
/-! and, or, not -/
/-- a chain of tests by and, or -/
structure DW (G : Gm) (X : Cx) (W : WX) (e : Expr) (f : DenB) : Prop where
  pw : PW X e (rdB G W f)
theorem DW.db (h : DW G X W a tb) : DB G X W a tb := ⟨h.pw.pt⟩
theorem dw_and1 (h : DB G X W a tb) : DW G X W (.BoolOp .And [a] pos) tb := ⟨pw_and1 h.pt⟩
theorem dw_or1 (h : DB G X W a tb) : DW G X W (.BoolOp .Or [a] pos) tb := ⟨pw_or1 h.pt⟩
theorem dw_and (h : DB G X W a tb) (h2 : DW G X W (.BoolOp .And (b :: rest) pos) ub) : DW G X W (.BoolOp .And (a :: b :: rest) pos) (andB tb ub) := by
  refine ⟨(pw_and h.pt h2.pw).imp ?_⟩
  intro σ H Q hq
  obtain ⟨ρ, st, α, E, S, q⟩ := hq
  refine ⟨ρ, st, α, E, S, (post.step (rp := rpB) q).imp fun x H1 ⟨d, s1, α1, l, S1, R, q⟩ => ?_⟩
  cases (show x = d from R)
  cases x with
  | true => exact ⟨ρ, s1, α1, E.mono l, S1, q⟩
  | false => exact q false α1 H1 Le.refl S1 rfl
theorem dw_or (h : DB G X W a tb) (h2 : DW G X W (.BoolOp .Or (b :: rest) pos) ub) : DW G X W (.BoolOp .Or (a :: b :: rest) pos) (orB tb ub) := by
  refine ⟨(pw_or h.pt h2.pw).imp ?_⟩
  intro σ H Q hq
  obtain ⟨ρ, st, α, E, S, q⟩ := hq
  refine ⟨ρ, st, α, E, S, (post.step (rp := rpB) q).imp fun x H1 ⟨d, s1, α1, l, S1, R, q⟩ => ?_⟩
  cases (show x = d from R)
  cases x with
  | false => exact ⟨ρ, s1, α1, E.mono l, S1, q⟩
  | true => exact q true α1 H1 Le.refl S1 rfl
theorem db_not (h : DB G X W a tb) : DB G X W (.UnaryOp .Not a pos) (notB tb) := by
  refine ⟨(pt_not h.pt).imp ?_⟩
  intro σ H Q hq
  obtain ⟨ρ, st, α, E, S, q⟩ := hq
  refine ⟨ρ, st, α, E, S, (post.step (rp := rpB) q).imp fun x H1 ⟨d, s1, α1, l, S1, R, q⟩ => ?_⟩
  cases (show x = d from R)
  exact q _ α1 H1 Le.refl S1 rfl
theorem de_one {op : BoolOp} (h : DE G X W a f) : DE G X W (.BoolOp op [a] pos) f := ⟨pe_one h.pe⟩
theorem de_and (C : Cm G X W k) (h : DE G X W a f) (h2 : DE G X W (.BoolOp .And (b :: rest) pos) g) : DE G X W (.BoolOp .And (a :: b :: rest) pos) (andE f g) := by
  refine ⟨(pe_andT h.pe h2.pe).imp ?_⟩
  intro σ H Q hq
  obtain ⟨ρ, st, α, E, S, q⟩ := hq
  refine ⟨ρ, st, α, E, S, (post.step q).imp fun x H1 ⟨d, s1, α1, l, S1, R, q⟩ => ?_⟩
  cases e : truD d s1 with
  | none => rw [e] at q; exact q.elim
  | some b =>
    rw [e, show Res.of (some b) s1 = Res.ok b s1 from rfl, Res.bind_ok] at q
    rw [C.K]
    refine ⟨b, tru_of S1 R e, ?_⟩
    cases b with
    | true => exact ⟨ρ, s1, α1, E.mono l, S1, q⟩
    | false => exact q x α1 H1 Le.refl S1 R
theorem de_or (C : Cm G X W k) (h : DE G X W a f) (h2 : DE G X W (.BoolOp .Or (b :: rest) pos) g) : DE G X W (.BoolOp .Or (a :: b :: rest) pos) (orE f g) := by
  refine ⟨(pe_orT h.pe h2.pe).imp ?_⟩
  intro σ H Q hq
  obtain ⟨ρ, st, α, E, S, q⟩ := hq
  refine ⟨ρ, st, α, E, S, (post.step q).imp fun x H1 ⟨d, s1, α1, l, S1, R, q⟩ => ?_⟩
  cases e : truD d s1 with
  | none => rw [e] at q; exact q.elim
  | some b =>
    rw [e, show Res.of (some b) s1 = Res.ok b s1 from rfl, Res.bind_ok] at q
    rw [C.K]
    refine ⟨b, tru_of S1 R e, ?_⟩
    cases b with
    | false => exact ⟨ρ, s1, α1, E.mono l, S1, q⟩
    | true => exact q x α1 H1 Le.refl S1 R
theorem de_not (C : Cm G X W k) (h : DE G X W a f) : DE G X W (.UnaryOp .Not a pos) (notE f) := by
  refine ⟨(pe_notT h.pe).imp ?_⟩
  intro σ H Q hq
  obtain ⟨ρ, st, α, E, S, q⟩ := hq
  refine ⟨ρ, st, α, E, S, (post.step q).imp fun x H1 ⟨d, s1, α1, l, S1, R, q⟩ => ?_⟩
  cases e : truD d s1 with
  | none => rw [e] at q; exact q.elim
  | some b =>
    rw [e] at q
    rw [C.K]
    exact ⟨b, tru_of S1 R e, q _ α1 H1 Le.refl S1 rfl⟩
theorem de_if (hc : DB G X W c tb) (h1 : DE G X W a f) (h2 : DE G X W b g) : DE G X W (.IfExp c a b pos) (ifE tb f g) := by
  refine ⟨(pe_ifExp hc.pt h1.pe h2.pe).imp ?_⟩
  intro σ H Q hq
  obtain ⟨ρ, st, α, E, S, q⟩ := hq
  refine ⟨ρ, st, α, E, S, (post.step (rp := rpB) q).imp fun x H1 ⟨d, s1, α1, l, S1, R, q⟩ => ?_⟩
  cases (show x = d from R)
  cases x with
  | true => exact ⟨ρ, s1, α1, E.mono l, S1, q⟩
  | false => exact ⟨ρ, s1, α1, E.mono l, S1, q⟩
end
end DL

namespace DL
open PySem PySem.Spec PyProof.Rows L2

/-! ### arithmetic -/
def addD : O2 := fun a b st => match a, b with
  | .int i, .int j => some (.int (i + j))
  | .str x, .str y => if x.length + y.length ≤ sizeLine then some (.str (x ++ y)) else none
  | .tup xs, .tup ys => if xs.length + ys.length ≤ sizeLine then some (.tup (xs ++ ys)) else none
  | a, b => match viewL st a, viewL st b with
    | some xs, some ys => if xs.length + ys.length ≤ sizeLine then some (.lst (xs ++ ys)) else none
    | _, _ => none
def subD : O2 := fun a b _ => match a, b with
  | .int i, .int j => some (.int (i - j))
  | _, _ => none
def mulOk (i j : Int) : Prop := CMul i j ∨ CMulW i j
instance (i j : Int) : Decidable (mulOk i j) := by unfold mulOk CMul CMulW; infer_instance
def repL (n : Nat) (xs : List D) : List D := (List.replicate n xs).flatten
def mulD : O2 := fun a b st => match a, b with
  | .int i, .int j => if mulOk i j then some (.int (i * j)) else none
  | .tup xs, .int k => if xs ≠ [] ∧ 2 ≤ k ∧ k ≤ 1000 ∧ xs.length ≤ 1000 then some (.tup (repL k.toNat xs)) else none
  | a, .int k => match viewL st a with
    | some xs => if -(2 ^ 63) ≤ k ∧ k < 2 ^ 63 ∧ xs.length * k.toNat ≤ sizeLine then some (.lst (repL k.toNat xs)) else none
    | none => none
  | _, _ => none
instance (i j : Int) : Decidable (CDivW i j) := inferInstanceAs (Decidable (0 < j ∧ j.natAbs.log2 < 9000))
instance (i j : Int) : Decidable (CPow i j) := by unfold CPow; infer_instance
def fdivD : O2 := fun a b _ => match a, b with
  | .int i, .int j => if CDivW i j then some (.int (i / j)) else none
  | _, _ => none
def modD : O2 := fun a b _ => match a, b with
  | .int i, .int j => if 0 < j then some (.int (i % j)) else none
  | _, _ => none
def powD : O2 := fun a b _ => match a, b with
  | .int i, .int j => if CPow i j then some (.int (i ^ j.toNat)) else none
  | _, _ => none
def negD : O1 := fun a _ => match a with
  | .int i => some (.int (-i))
  | _ => none
theorem strOk_append {x y : Str} (hx : PyData.strOk x = true) (hy : PyData.strOk y = true) : PyData.strOk (x ++ y) = true := by
  unfold PyData.strOk at *
  show (x.cps ++ y.cps).all _ = true
  rw [Array.all_append, hx, hy]
  rfl
section
variable {G : Gm} {W : WX} {X : Cx} {k : Nat} {α : List Addr} {H : Hp} {st : Store}
/-- t + u: a new tuple without dict, or the one that is left -/
theorem op_catF : OpR X (binaryOp .Add) (fun x y H Q => ∃ a b xs ys, x = V.ref a ∧ y = V.ref b ∧ SqT X.K H a xs ∧ SqT X.K H b ys ∧ xs.length + ys.length ≤ sizeLine ∧
    (xs = [] → Q (.ref b) H) ∧ (xs ≠ [] → ys = [] → Q (.ref a) H) ∧ (xs ≠ [] → ys ≠ [] → ∀ (p : Addr) (o : Obj), H p = none → o.dict = none → Q (.ref p) (upd H p (.frz o (.tup (xs ++ ys)))))) := by
  rintro pins s σ H x y v u Q I rx ry ⟨a, b, xs, ys, rfl, rfl, ha, hb, few, q0, q1, q2⟩
  cases rx
  cases ry
  obtain ⟨its, r1, t1, _⟩ := I.tuple ha
  obtain ⟨its2, r2, t2, _⟩ := I.tuple hb
  by_cases hx : xs = []
  · subst hx
    cases r1
    exact cat_tup0 t1 t2 ⟨.ref b, H, I, rfl, q0 rfl⟩
  · have len1 := r1.length
    have len2 := r2.length
    refine HT.cat_tup t1 t2 (fun z => hx (r1.nil_iff.mp z)) (fun z => ⟨.ref a, H, I, rfl, q1 hx (r2.nil_iff.mp z)⟩) (fun z => ?_) (by omega)
    exact lay_tup (n := 0) I (r1.append r2) (by rw [List.length_append]; exact few) (q2 hx fun w => z (r2.nil_iff.mpr w))
theorem op_addI (C : Cm G X W k) : OpR X (binaryOp .Add) (rd2 G addD) := by
  refine (((op_add.or op_add_str).or (op_catF (X := X))).or (op_cat (X := X))).imp fun x y H Q ⟨d, e, st, α, S, r1, r2, g⟩ => ?_
  unfold addD at g
  split at g
  · cases (show x = _ from r1)
    cases (show y = _ from r2)
    exact .inl (.inl (.inl ⟨_, _, rfl, rfl, got.here (d := .int _) S rfl g⟩))
  · rename_i x1 y1
    obtain ⟨e1, h1⟩ := (show x = V.str x1 ∧ PyData.strOk x1 = true from r1)
    obtain ⟨e2, h2⟩ := (show y = V.str y1 ∧ PyData.strOk y1 = true from r2)
    subst e1 e2
    split at g
    · rename_i hl
      exact .inl (.inl (.inr ⟨_, _, rfl, rfl, hl, got.here (d := .str _) S ⟨rfl, strOk_append h1 h2⟩ g⟩))
    · exact g.elim
  · rename_i xs ys
    obtain ⟨a, vs, rfl, t1, q1⟩ := r1.tupOf
    obtain ⟨b, ws, rfl, t2, q2⟩ := r2.tupOf
    split at g
    · rename_i hl
      rw [q1.len, q2.len] at hl
      refine .inl (.inr ⟨a, b, vs, ws, rfl, rfl, by rw [C.K]; exact t1.seq, by rw [C.K]; exact t2.seq, hl, fun z => ?_, fun _ z => ?_, fun _ _ p o n e => ?_⟩)
      · have zx : xs = [] := List.length_eq_zero_iff.mp (by rw [q1.len, z]; rfl)
        subst zx
        exact got.here S r2 g
      · have zy : ys = [] := List.length_eq_zero_iff.mp (by rw [q2.len, z]; rfl)
        subst zy
        rw [List.append_nil] at g
        exact got.here S r1 g
      · rename_i p o n e
        exact got.tup S (q1.append q2) g p o n e
    · exact g.elim
  · split at g
    · rename_i xs ys v1 v2
      split at g
      · rename_i hl
        obtain ⟨a, vs, rfl, t1, q1⟩ := viewL_ok S r1 v1
        obtain ⟨b, ws, rfl, t2, q2⟩ := viewL_ok S r2 v2
        rw [q1.len, q2.len] at hl
        exact .inr ⟨a, b, vs, ws, rfl, rfl, t1, t2, hl, got.lst S (q1.append q2) g⟩
      · exact g.elim
    · exact g.elim
theorem op_subI : OpR X (binaryOp .Sub) (rd2 G subD) := op_sub.imp fun x y H Q ⟨d, e, st, α, S, r1, r2, g⟩ => by
  unfold subD at g
  split at g
  · cases (show x = _ from r1)
    cases (show y = _ from r2)
    exact ⟨_, _, rfl, rfl, got.here (d := .int _) S rfl g⟩
  · exact g.elim
theorem RepL.rep {xs : List D} {vs : List V} (r : RepL G.K α H xs vs) : ∀ n, RepL G.K α H (repL n xs) (List.replicate n vs).flatten
  | 0 => rfl
  | n + 1 => by
    show RepL G.K α H (List.replicate (n + 1) xs).flatten (List.replicate (n + 1) vs).flatten
    rw [List.replicate_succ, List.replicate_succ, List.flatten_cons, List.flatten_cons]
    exact r.append (RepL.rep r n)
/-- t * k: a new tuple without dict -/
theorem op_repF : OpR X (binaryOp .Mult) (fun x y H Q => ∃ l k xs, x = V.ref l ∧ y = V.int k ∧ SqT X.K H l xs ∧ xs ≠ [] ∧ 2 ≤ k ∧ k ≤ 1000 ∧ xs.length ≤ 1000 ∧ ∀ (p : Addr) (o : Obj), H p = none → o.dict = none → Q (.ref p) (upd H p (.frz o (.tup (List.replicate k.toNat xs).flatten)))) := by
  rintro pins s σ H x y v u Q I rx ry ⟨l, k, xs, rfl, rfl, hT, hne, k1, k2, hz, q⟩
  cases rx
  obtain ⟨t, rfl⟩ := ry
  obtain ⟨its, r, ⟨ob, ho, hc, n, hd⟩, _⟩ := I.tuple hT
  obtain ⟨cls, dd, data, sl⟩ := ob
  simp only at hc hd
  subst hc hd
  have len : its.length = xs.length := r.length.symm
  have some_ : its.toArray.isEmpty = false := by
    cases its with
    | nil => exact absurd (List.eq_nil_of_length_eq_zero len.symm) hne
    | cons a b => rfl
  have size_ : its.toArray.size = xs.length := by rw [List.size_toArray, len]
  have few : ((its.toArray.size : Nat) : Int) * k ≤ 1000000 := by
    rw [size_]
    have := Int.mul_le_mul_of_nonneg_right (show (xs.length : Int) ≤ 1000 by omega) (show 0 ≤ k by omega)
    omega
  have prod : k.toNat * xs.length ≤ 1000 * 1000 := Nat.mul_le_mul (by omega) hz
  have z0 : (decide (k < -(2 ^ 63)) || decide (k ≥ 2 ^ 63)) = false := by simp; omega
  have z1 : (its.toArray.isEmpty || k == 1) = false := by rw [some_]; simp; omega
  have z2 : (decide (k ≤ 0) || its.toArray.isEmpty) = false := by rw [some_]; simp; omega
  have z4 : Builtin.Tuple.tupleTooMany (((its.toArray.size : Nat) : Int) * k) = false := by
    unfold Builtin.Tuple.tupleTooMany
    rw [sizeLine_eq]
    exact decide_eq_false (by omega)
  have z5 : (List.foldl (fun x1 x2 => x1 ++ x2) #[] (List.replicate k.toNat its.toArray)).size ≤ sizeLine := by
    rw [size_rep, List.size_toArray, PyProof.Rows.lm_len_rep_flat, len, sizeLine_eq]
    omega
  refine wpAny_binaryOp_repeat_ref (T := "tuple") (U := "int") (by decide) ⟨_, ho, rfl⟩ (fun s' => typeIs_int s' k t) noFill_tuple_mul F.fills_int_mul F.slot_int_rmul repeat_tuple F.slot_int_index.lookup ?_
  refine call_meets F.slot_int_rmul (typeIs_int s k t) F.entry_int_rmul (F.args_int_rmul_2 _ _) (int_rmul_tuple k t l its.toArray n dd sl) ⟨ho, rfl, ⟨_, ho, rfl⟩, ?_⟩
  refine call_meets F.slot_tuple_mul ⟨_, ho, rfl⟩ F.entry_tuple_mul (F.args_tuple_mul_2 _ _) (tuple_mulW l its.toArray n dd sl k t z0 z1 z2 (by omega) z4 z5) ⟨ho, ?_⟩
  rw [size_rep]
  exact lay_tup I (r.rep k.toNat) (by rw [PyProof.Rows.lm_len_rep_flat, sizeLine_eq]; omega) q
theorem op_mulI (C : Cm G X W k) : OpR X (binaryOp .Mult) (rd2 G mulD) := by
  refine (((op_mul.or op_mulW).or (op_rep (X := X))).or (op_repF (X := X))).imp fun x y H Q ⟨d, e, st, α, S, r1, r2, g⟩ => ?_
  unfold mulD at g
  split at g
  · cases (show x = _ from r1)
    cases (show y = _ from r2)
    split at g
    · rename_i h
      rcases h with h | h
      · exact .inl (.inl (.inl ⟨_, _, rfl, rfl, h, got.here (d := .int _) S rfl g⟩))
      · exact .inl (.inl (.inr ⟨_, _, rfl, rfl, h, got.here (d := .int _) S rfl g⟩))
    · exact g.elim
  · cases (show y = _ from r2)
    split at g
    · rename_i h
      obtain ⟨a, vs, rfl, t1, q1⟩ := r1.tupOf
      obtain ⟨h0, h1, h2, h3⟩ := h
      have hne : vs ≠ [] := fun z => h0 (List.length_eq_zero_iff.mp (by rw [q1.len, z]; rfl))
      exact .inr ⟨a, _, vs, rfl, rfl, by rw [C.K]; exact t1.seq, hne, h1, h2, by rw [← q1.len]; exact h3, fun p o n e => got.tup S (q1.rep _) g p o n e⟩
    · exact g.elim
  · cases (show y = _ from r2)
    split at g
    · rename_i xs hv
      split at g
      · rename_i h
        obtain ⟨a, vs, rfl, t1, q1⟩ := viewL_ok S r1 hv
        obtain ⟨h1, h2, h3⟩ := h
        rw [q1.len] at h3
        exact .inl (.inr ⟨a, _, vs, rfl, rfl, t1, h1, h2, h3, got.lst S (q1.rep _) g⟩)
      · exact g.elim
    · exact g.elim
  · exact g.elim
theorem op_fdivI : OpR X (binaryOp .FloorDiv) (rd2 G fdivD) := op_fdivW.imp fun x y H Q ⟨d, e, st, α, S, r1, r2, g⟩ => by
  unfold fdivD at g
  split at g
  · cases (show x = _ from r1)
    cases (show y = _ from r2)
    split at g
    · rename_i h
      exact ⟨_, _, rfl, rfl, h, got.here (d := .int _) S rfl g⟩
    · exact g.elim
  · exact g.elim
theorem op_modI : OpR X (binaryOp .Mod) (rd2 G modD) := op_mod.imp fun x y H Q ⟨d, e, st, α, S, r1, r2, g⟩ => by
  unfold modD at g
  split at g
  · cases (show x = _ from r1)
    cases (show y = _ from r2)
    split at g
    · rename_i h
      exact ⟨_, _, rfl, rfl, h, got.here (d := .int _) S rfl g⟩
    · exact g.elim
  · exact g.elim
theorem op_powI : OpR X (binaryOp .Pow) (rd2 G powD) := op_pow.imp fun x y H Q ⟨d, e, st, α, S, r1, r2, g⟩ => by
  unfold powD at g
  split at g
  · cases (show x = _ from r1)
    cases (show y = _ from r2)
    split at g
    · rename_i h
      exact ⟨_, _, rfl, rfl, h, got.here (d := .int _) S rfl g⟩
    · exact g.elim
  · exact g.elim
theorem op_negI : UnR X (unaryOp .USub) (rd1 G negD) := un_neg.imp fun x H Q ⟨d, st, α, S, r1, g⟩ => by
  unfold negD at g
  split at g
  · cases (show x = _ from r1)
    exact ⟨_, rfl, got.here (d := .int _) S rfl g⟩
  · exact g.elim
/-! is -/
def isNonB : D → Bool
  | .non => true
  | _ => false
def isNonD : O2 := fun a b _ => match b with
  | .non => some (.bl (isNonB a))
  | .bl c => (match a with
    | .bl d => some (.bl (decide (d = c)))
    | _ => none)
  | _ => none
def notNonD : O2 := fun a b _ => match b with
  | .non => some (.bl (!isNonB a))
  | .bl c => (match a with
    | .bl d => some (.bl (!decide (d = c)))
    | _ => none)
  | _ => none
theorem non_iff {d : D} {v : V} (r : Rep G.K α H d v) : decide (v = .non) = isNonB d := by
  cases d with
  | non => cases (show v = _ from r); rfl
  | bl b => cases (show v = _ from r); rfl
  | int b => cases (show v = _ from r); rfl
  | str b => obtain ⟨e, _⟩ := (show v = V.str b ∧ _ from r); subst e; rfl
  | tup xs => obtain ⟨a, vs, e, _⟩ := r; subst e; rfl
  | lst xs => obtain ⟨a, vs, e, _⟩ := r; subst e; rfl
  | ref n => obtain ⟨a, e, _⟩ := r; subst e; rfl
  | scr n => obtain ⟨a, e, _⟩ := r; subst e; rfl
  | ltp xs => obtain ⟨a, vs, e, _⟩ := r; subst e; rfl
theorem op_isI : OpR X (compareOp .Is) (rd2 G isNonD) := by
  refine (op_isN.or op_is_bl).imp fun x y H Q ⟨d, e, st, α, S, r1, r2, g⟩ => ?_
  unfold isNonD at g
  split at g
  · cases (show y = _ from r2)
    refine .inl ⟨rfl, ?_⟩
    rw [non_iff r1]
    exact got.here (d := .bl _) S rfl g
  · cases (show y = _ from r2)
    split at g
    · cases (show x = _ from r1)
      exact .inr ⟨_, _, rfl, rfl, got.here (d := .bl _) S rfl g⟩
    · exact g.elim
  · exact g.elim
theorem op_isnotI : OpR X (compareOp .IsNot) (rd2 G notNonD) := by
  refine (op_notN.or op_isnot_bl).imp fun x y H Q ⟨d, e, st, α, S, r1, r2, g⟩ => ?_
  unfold notNonD at g
  split at g
  · cases (show y = _ from r2)
    refine .inl ⟨rfl, ?_⟩
    rw [non_iff r1]
    exact got.here (d := .bl _) S rfl g
  · cases (show y = _ from r2)
    split at g
    · cases (show x = _ from r1)
      exact .inr ⟨_, _, rfl, rfl, got.here (d := .bl _) S rfl g⟩
    · exact g.elim
  · exact g.elim
theorem tells_is : Tells isNonD := fun a b st d h => by
  unfold isNonD at h
  split at h
  · cases h; exact ⟨_, rfl⟩
  · split at h
    · cases h; exact ⟨_, rfl⟩
    · cases h
  · cases h
theorem tells_isnot : Tells notNonD := fun a b st d h => by
  unfold notNonD at h
  split at h
  · cases h; exact ⟨_, rfl⟩
  · split at h
    · cases h; exact ⟨_, rfl⟩
    · cases h
  · cases h
/-! in -/
def inL (d : D) (xs : List D) : Bool := xs.any fun z => D.eqv z d
def inD : O2 := fun a b st => match a, b with
  | .str x, .str y => some (.bl (!(Builtin.Str.occurrences y x 0 y.length 1).isEmpty))
  | a, b => match view st b with
    | some xs => if fits a 60 && fitsL xs 60 then some (.bl (inL a xs)) else none
    | none => none
def ninD : O2 := fun a b st => match a, b with
  | .str x, .str y => some (.bl (!(!(Builtin.Str.occurrences y x 0 y.length 1).isEmpty)))
  | a, b => match view st b with
    | some xs => if fits a 60 && fitsL xs 60 then some (.bl (!inL a xs)) else none
    | none => none
theorem tells_in : Tells inD := fun a b st d h => by
  unfold inD at h
  split at h
  · cases h; exact ⟨_, rfl⟩
  · split at h
    · split at h
      · cases h; exact ⟨_, rfl⟩
      · cases h
    · cases h
theorem tells_nin : Tells ninD := fun a b st d h => by
  unfold ninD at h
  split at h
  · cases h; exact ⟨_, rfl⟩
  · split at h
    · split at h
      · cases h; exact ⟨_, rfl⟩
      · cases h
    · cases h
theorem any_toPy (d : D) : ∀ xs : List D, ((toPyL xs).any fun z => PyData.eqv z (toPy d)) = inL d xs
  | [] => rfl
  | x :: xs => by
    show (PyData.eqv (toPy x) (toPy d) || (toPyL xs).any fun z => PyData.eqv z (toPy d)) = (D.eqv x d || inL d xs)
    rw [any_toPy d xs]
    rfl
/-- x in a list or tuple of data -/
theorem in_seqD (C : Cm G X W k) (neg : Bool) {pins : List (Addr × Obj)} {s : Shared} {σ : L2.St} {x y : V} {v u : Value} {Q : VK} {d e : D} {xs : List D} (I : Inv X pins σ H s) (S : SR G α st H) (rx : RelV x v) (ry : RelV y u)
    (r1 : Rep G.K α H d x) (r2 : Rep G.K α H e y) (hv : view st e = some xs) (f1 : fits d 60 = true) (f2 : fitsL xs 60 = true) (q : Q (.bl (if neg then !inL d xs else inL d xs)) H) :
    wpAny (model X.prog X.w) X.A (compareOp (if neg then .NotIn else .In) v u) (EP X pins σ Q) X.xe s := by
  obtain ⟨a, vs, rfl, t, r⟩ := view_ok S r2 hv
  obtain ⟨p1, c1⟩ := dp_of d 60 x f1 r1
  obtain ⟨p2, c2⟩ := dpL_of xs 60 vs f2 r
  rw [← C.K] at p1 p2 t
  obtain ⟨as, q1⟩ := Dp.reads I _ x v p1 rx
  have hu : X.A.units + 1 + min (PyData.depthAll (toPyL xs)) (toPy d).depth < cLine := by
    have h1 := depth_toPy d 60 f1
    have h2 : min (PyData.depthAll (toPyL xs)) (toPy d).depth ≤ (toPy d).depth := Nat.min_le_right _ _
    have := C.room.units
    have := C.room.un
    omega
  rcases t with t | t
  · obtain ⟨bs, q2⟩ := Dp.reads I (.list (toPyL xs)) (.ref a) u (.lst t p2) ry
    cases neg with
    | false => exact SeqAt.in_list_reads q2 q1 c2 c1 hu ⟨.bl _, H, I, rfl, by rw [any_toPy]; exact q⟩
    | true => exact SeqAt.notIn_list_reads q2 q1 c2 c1 hu ⟨.bl _, H, I, rfl, by rw [any_toPy]; exact q⟩
  · obtain ⟨bs, q2⟩ := Dp.reads I (.tuple (toPyL xs)) (.ref a) u (.tup t p2) ry
    cases neg with
    | false => exact SeqAt.in_tuple_reads q2 q1 c2 c1 hu ⟨.bl _, H, I, rfl, by rw [any_toPy]; exact q⟩
    | true => exact SeqAt.notIn_tuple_reads q2 q1 c2 c1 hu ⟨.bl _, H, I, rfl, by rw [any_toPy]; exact q⟩
theorem op_inI (C : Cm G X W k) : OpR X (compareOp .In) (rd2 G inD) := by
  intro pins s σ H x y v u Q I rx ry ⟨d, e, st, α, S, r1, r2, g⟩
  unfold inD at g
  split at g
  · rename_i x1 y1
    obtain ⟨e1, h1⟩ := (show x = V.str x1 ∧ PyData.strOk x1 = true from r1)
    obtain ⟨e2, h2⟩ := (show y = V.str y1 ∧ PyData.strOk y1 = true from r2)
    subst e1 e2
    exact op_in_str pins s σ H _ _ v u Q I rx ry ⟨_, _, rfl, rfl, got.here (d := .bl _) S rfl g⟩
  · split at g
    · rename_i xs hv
      split at g
      · rename_i hf
        obtain ⟨f1, f2⟩ := Bool.and_eq_true_iff.mp hf
        exact in_seqD C false I S rx ry r1 r2 hv f1 f2 (got.here (d := .bl _) S rfl g)
      · exact g.elim
    · exact g.elim
theorem op_ninI (C : Cm G X W k) : OpR X (compareOp .NotIn) (rd2 G ninD) := by
  intro pins s σ H x y v u Q I rx ry ⟨d, e, st, α, S, r1, r2, g⟩
  unfold ninD at g
  split at g
  · rename_i x1 y1
    obtain ⟨e1, h1⟩ := (show x = V.str x1 ∧ PyData.strOk x1 = true from r1)
    obtain ⟨e2, h2⟩ := (show y = V.str y1 ∧ PyData.strOk y1 = true from r2)
    subst e1 e2
    exact op_notin_str pins s σ H _ _ v u Q I rx ry ⟨_, _, rfl, rfl, got.here (d := .bl _) S rfl g⟩
  · split at g
    · rename_i xs hv
      split at g
      · rename_i hf
        obtain ⟨f1, f2⟩ := Bool.and_eq_true_iff.mp hf
        exact in_seqD C true I S rx ry r1 r2 hv f1 f2 (got.here (d := .bl _) S rfl g)
      · exact g.elim
    · exact g.elim
end
end DL

namespace DL
open PySem PySem.Spec PyProof.Rows L2

/-! ### argument lists, displays -/
def nilL : DenL := fun _ st => .ok [] st
def consL (f : Den) (g : DenL) : DenL := fun ρ st => (f ρ st).bind fun d s => (g ρ s).bind fun ds s2 => .ok (d :: ds) s2
def tupE (f : DenL) : Den := fun ρ st => (f ρ st).bind fun ds s => if ds.length ≤ sizeLine then .ok (.tup ds) s else .stuck
def lstE (f : DenL) : Den := fun ρ st => (f ρ st).bind fun ds s => if ds.length ≤ sizeLine then .ok (.lst ds) s else .stuck
/-- a list that will be changed: a cell -/
def newE (f : DenL) : Den := fun ρ st => (f ρ st).bind fun ds s => if ds.length ≤ sizeLine then .ok (.ref s.length) (s ++ [.lst ds]) else .stuck
section
variable {G : Gm} {W : WX} {X : Cx} {k : Nat} {α : List Addr} {H : Hp} {st : Store} {e : Expr} {es : List Expr} {f : Den} {g : DenL} {pos : Pos}
theorem da_nil : DA G X W [] nilL := ⟨pa_nil.imp fun σ H Q ⟨ρ, st, α, E, S, q⟩ => q [] α H Le.refl S rfl⟩
theorem da_cons (h : DE G X W e f) (t : DA G X W es g) (hs : starEach (e :: es) X.env = (false, eval e X.env) :: starEach es X.env := by rfl) : DA G X W (e :: es) (consL f g) := by
  refine ⟨(pa_cons h.pe t.pa hs).imp ?_⟩
  intro σ H Q hq
  obtain ⟨ρ, st, α, E, S, q⟩ := hq
  refine ⟨ρ, st, α, E, S, (post.step q).imp fun x H1 ⟨d, s1, α1, l, S1, R, q⟩ => ?_⟩
  refine ⟨ρ, s1, α1, E.mono l, S1, (post.step (rp := RepL G.K) q).imp fun xs H2 ⟨ds, s2, α2, l2, S2, R2, q2⟩ => ?_⟩
  exact q2 _ α2 H2 Le.refl S2 (.cons (R.mono l2) R2)
/-- (e, ..): a new tuple without dict -/
theorem pe_tupF {x1} {t : TA} (h : PA X es t) : PE X (.Tuple es x1 pos) (fun σ H Q => t σ H fun xs H1 => xs.length ≤ sizeLine ∧ ∀ (p : Addr) (o : Obj), H1 p = none → o.dict = none → Q (.ref p) (upd H1 p (.frz o (.tup xs)))) := by
  constructor
  intro pins s σ H Q I hq
  refine wpAny_Tuple_spliced (thn (h.run pos pins s σ H _ I hq) ?_)
  rintro us s1 ⟨xs, H1, J, r, few, q⟩
  have len := r.length
  exact ⟨by omega, lay_tup (n := 0) J r few q⟩
theorem de_tup {x1} (h : DA G X W es g) : DE G X W (.Tuple es x1 pos) (tupE g) := by
  refine ⟨(pe_tupF h.pa).imp ?_⟩
  intro σ H Q hq
  obtain ⟨ρ, st, α, E, S, q⟩ := hq
  refine ⟨ρ, st, α, E, S, (post.step (rp := RepL G.K) q).imp fun xs H1 ⟨ds, s1, α1, l, S1, R, q⟩ => ?_⟩
  split at q
  · rename_i hl
    rw [R.len] at hl
    exact ⟨hl, got.tup S1 R q⟩
  · exact q.elim
theorem de_lst (h : DA G X W es g) : DE G X W (.List es pos) (lstE g) := by
  refine ⟨(pe_lst h.pa).imp ?_⟩
  intro σ H Q hq
  obtain ⟨ρ, st, α, E, S, q⟩ := hq
  refine ⟨ρ, st, α, E, S, (post.step (rp := RepL G.K) q).imp fun xs H1 ⟨ds, s1, α1, l, S1, R, q⟩ => ?_⟩
  split at q
  · rename_i hl
    rw [R.len] at hl
    exact ⟨hl, got.lst S1 R q⟩
  · exact q.elim
/-- a new list as a cell -/
theorem post.new {A B : Type} {σ : L2.St} {ds : List D} {vs : List V} {Q : VK} (S : SR G α st H) (R : RepL G.K α H ds vs) (q : post G W (Rep G.K) α H (.ok (.ref st.length) (st ++ [.lst ds])) σ Q) : ∀ p, H p = none → Q (.ref p) (upd H p (.lst vs)) := fun p n => by
  have l := Le.new (α := α) (o := HO.lst vs) n (S.notIn n)
  refine q _ (α ++ [p]) _ l (S.new n ⟨vs, upd_same, R.mono l⟩) ⟨p, rfl, ?_⟩
  rw [← S.len, List.getElem?_append_right (Nat.le_refl _)]
  simp
theorem de_new (h : DA G X W es g) : DE G X W (.List es pos) (newE g) := by
  refine ⟨(pe_lst h.pa).imp ?_⟩
  intro σ H Q hq
  obtain ⟨ρ, st, α, E, S, q⟩ := hq
  refine ⟨ρ, st, α, E, S, (post.step (rp := RepL G.K) q).imp fun xs H1 ⟨ds, s1, α1, l, S1, R, q⟩ => ?_⟩
  split at q
  · rename_i hl
    rw [R.len] at hl
    exact ⟨hl, post.new (A := D) (B := V) S1 R q⟩
  · exact q.elim
end

/-! ### items -/
def chD (c : Nat) : D := .str ⟨#[c]⟩
def ixD : O2 := fun a i st => match i with
  | .int i => (match a with
    | .str z => if z.length ≤ sizeLine then (atI z.cps.toList i).map chD else none
    | a => (view st a).bind fun xs => atI xs i)
  | _ => none
theorem strOk_at {z : Str} {c : Nat} (h : PyData.strOk z = true) (m : c ∈ z.cps.toList) : PyData.strOk ⟨#[c]⟩ = true := by
  unfold PyData.strOk at *
  rw [← Array.all_toList, List.all_eq_true] at h
  simpa using h c m
theorem mem_atI {A : Type} {xs : List A} {i : Int} {v : A} (h : atI xs i = some v) : v ∈ xs := by
  obtain ⟨j, _, e, _⟩ := atI_get h
  exact List.mem_of_getElem? e
theorem atI_rep {K : PySem.W.Frag} {α : List Addr} {H : Hp} {xs : List D} {vs : List V} (r : RepL K α H xs vs) {i : Int} {d : D} (h : atI xs i = some d) : ∃ v, atI vs i = some v ∧ Rep K α H d v := by
  unfold atI at h ⊢
  rw [← r.len]
  cases e : ixN xs.length i with
  | none => rw [e] at h; cases h
  | some j =>
    rw [e] at h
    exact r.get h
section
variable {G : Gm} {W : WX} {X : Cx} {k : Nat} {α : List Addr} {H : Hp} {st : Store} {a b : Expr} {f g : Den} {pos : Pos}
theorem ix_D (C : Cm G X W k) : IxR X (rd2 G ixD) := by
  intro bb hb pins s σ H x y v u Q I rx ry ⟨d, e, st, α, S, r1, r2, g⟩
  unfold ixD at g
  split at g
  · rename_i i
    cases (show y = V.int i from r2)
    split at g
    · rename_i z
      obtain ⟨e1, h1⟩ := (show x = V.str z ∧ PyData.strOk z = true from r1)
      subst e1
      split at g
      · rename_i hl
        cases hc : atI z.cps.toList i with
        | none => rw [hc] at g; exact g.elim
        | some c =>
          rw [hc] at g
          exact ix_str bb hb pins s σ H _ _ v u Q I rx ry ⟨z, i, c, rfl, rfl, hl, hc, got.here (d := chD c) S ⟨rfl, strOk_at h1 (mem_atI hc)⟩ g⟩
      · exact g.elim
    · cases hv : view st d with
      | none => rw [hv] at g; exact g.elim
      | some xs =>
        rw [hv] at g
        obtain ⟨p, vs, rfl, t, r⟩ := view_ok S r1 hv
        have g : got G α H st (atI xs i) Q := g
        cases hc : atI xs i with
        | none => rw [hc] at g; exact g.elim
        | some c =>
          rw [hc] at g
          obtain ⟨w, e2, rw'⟩ := atI_rep r hc
          rw [← C.K] at t
          rcases t with t | t
          · exact ix_list bb hb pins s σ H _ _ v u Q I rx ry ⟨p, vs, i, w, rfl, rfl, t, e2, got.here S rw' g⟩
          · exact ix_tup bb hb pins s σ H _ _ v u Q I rx ry ⟨p, vs, i, w, rfl, rfl, t, e2, got.here S rw' g⟩
  · exact g.elim

theorem de_ix (C : Cm G X W k) (ha : DE G X W a f) (hb : DE G X W b g) (hs : PlainIx b := by exact fun _ _ => rfl) : DE G X W (.Subscript a b pos) (op2 ixD f g) :=
  ⟨(pe_ix (ix_D C) ha.pe hb.pe hs).imp fun _ _ _ => rd2_of⟩
end
/-! ### slices -/
abbrev DenO := Env → Store → Res (Option Int)
def rpO (_ : List Addr) (_ : Hp) (a b : Option Int) : Prop := b = a
structure DO (G : Gm) (X : Cx) (W : WX) (e : Option Expr) (f : DenO) : Prop where
  po : PO X e (rd G W rpO f)
def noO : DenO := fun _ st => .ok none st
def soO (f : Den) : DenO := fun ρ st => (f ρ st).bind fun d s => match d with
  | .int i => .ok (some i) s
  | _ => .stuck
def cutL (xs : List D) (lo hi : Option Int) : List D := (xs.drop (HT.sIx xs.length 0 lo)).take (HT.sIx xs.length xs.length hi - HT.sIx xs.length 0 lo)
def slD (a : D) (lo hi : Option Int) (st : Store) : Option D := match a with
  | .str z => if z.length ≤ sizeLine then some (.str (cutS z lo hi)) else none
  | .tup xs => some (.tup (cutL xs lo hi))
  | a => (viewL st a).map fun xs => .lst (cutL xs lo hi)
def slE (f : Den) (lo hi : DenO) : Den := fun ρ st => (f ρ st).bind fun a s => (lo ρ s).bind fun l s2 => (hi ρ s2).bind fun h s3 => Res.of (slD a l h s3) s3
def revD : O1 := fun a st => match a with
  | .tup xs => some (.tup xs.reverse)
  | a => (viewL st a).map fun xs => .lst xs.reverse
section
variable {G : Gm} {W : WX} {X : Cx} {k : Nat} {α : List Addr} {H : Hp} {st : Store} {a b : Expr} {f g : Den} {pos p2 : Pos}
theorem do_no : DO G X W none noO := ⟨⟨fun pins s σ H Q I ⟨ρ, st, α, E, S, q⟩ => po_none.run pins s σ H Q I (q none α H Le.refl S rfl)⟩⟩
theorem do_so (h : DE G X W a f) : DO G X W (some a) (soO f) := by
  refine ⟨⟨fun pins s σ H Q I hq => (po_some h.pe).run pins s σ H Q I ?_⟩⟩
  obtain ⟨ρ, st, α, E, S, q⟩ := hq
  refine ⟨ρ, st, α, E, S, (post.step (rp := Rep G.K) q).imp fun x H1 ⟨d, s1, α1, l, S1, R, q⟩ => ?_⟩
  split at q
  · exact ⟨_, R, q _ α1 H1 Le.refl S1 rfl⟩
  · exact q.elim
theorem cutL_rep {xs : List D} {vs : List V} (r : RepL G.K α H xs vs) (lo hi : Option Int) : RepL G.K α H (cutL xs lo hi) (cutV vs lo hi) := by
  unfold cutL cutV
  rw [← r.len]
  exact (r.drop _).take _
theorem strOk_cut {z : Str} (h : PyData.strOk z = true) (lo hi : Option Int) : PyData.strOk (cutS z lo hi) = true := by
  unfold PyData.strOk cutS at *
  rw [← Array.all_toList, List.all_eq_true] at h
  rw [← Array.all_toList, List.all_eq_true]
  intro c hc
  exact h c (List.mem_of_mem_drop (List.mem_of_mem_take (by simpa using hc)))
/-- t[lo:hi]: a new tuple without dict, or t itself -/
theorem sl_tupF : SlR X (fun x lo hi H Q => ∃ a xs, x = V.ref a ∧ SqT X.K H a xs ∧ (HT.sIx xs.length 0 lo = 0 ∧ HT.sIx xs.length xs.length hi = xs.length → Q (.ref a) H) ∧
    (¬ (HT.sIx xs.length 0 lo = 0 ∧ HT.sIx xs.length xs.length hi = xs.length) → ∀ (p : Addr) (o : Obj), H p = none → o.dict = none → Q (.ref p) (upd H p (.frz o (.tup (cutV xs lo hi)))))) := by
  rintro pins s σ H x v vl vu lo hi sl Q I rx hs pl pu ⟨a, xs, rfl, hx, q1, q2⟩
  cases rx
  obtain ⟨its, r, ht, few⟩ := I.tuple hx
  have len : its.toArray.size = xs.length := by rw [List.size_toArray]; exact r.length.symm
  refine ⟨"tuple", _, PyProof.Rows.slot_tuple_getitem.lookup, ht.typeIs, ?_⟩
  by_cases hw : HT.sIx xs.length 0 lo = 0 ∧ HT.sIx xs.length xs.length hi = xs.length
  · exact getItem_tuple_whole ht hs pl pu (by rw [len]; exact hw) ⟨.ref a, H, I, rfl, q1 hw⟩
  · refine HT.getItem_tuple_cut ht hs pl pu (by rw [len]; exact hw) ?_ (by rw [len]; exact few)
    rw [len]
    exact lay_tup (n := 0) I ((r.drop _).take _) (Nat.le_trans (cutV_length xs lo hi) few) (q2 hw)
theorem sl_D (C : Cm G X W k) : SlR X (fun x lo hi H Q => ∃ d st α, SR G α st H ∧ Rep G.K α H d x ∧ got G α H st (slD d lo hi st) Q) := by
  intro pins s σ H x v vl vu lo hi sl Q I rx hs pl pu ⟨d, st, α, S, r1, g⟩
  unfold slD at g
  split at g
  · rename_i z
    obtain ⟨e1, h1⟩ := (show x = V.str z ∧ PyData.strOk z = true from r1)
    subst e1
    split at g
    · rename_i hl
      exact sl_str pins s σ H _ v vl vu lo hi sl Q I rx hs pl pu ⟨z, rfl, hl, got.here (d := .str _) S ⟨rfl, strOk_cut h1 lo hi⟩ g⟩
    · exact g.elim
  · rename_i xs
    obtain ⟨p, vs, rfl, t, r⟩ := r1.tupOf
    refine sl_tupF pins s σ H _ v vl vu lo hi sl Q I rx hs pl pu ⟨p, vs, rfl, by rw [C.K]; exact t.seq, fun hw => ?_, fun _ => got.tup S (cutL_rep r lo hi) g⟩
    have e : cutL xs lo hi = xs := by
      unfold cutL
      rw [r.len, hw.1, hw.2, List.drop_zero, Nat.sub_zero, ← r.len, List.take_length]
    rw [e] at g
    exact got.here S r1 g
  · cases hv : viewL st d with
    | none => rw [hv] at g; exact g.elim
    | some xs =>
      rw [hv] at g
      obtain ⟨p, vs, rfl, t, r⟩ := viewL_ok S r1 hv
      exact sl_list pins s σ H _ v vl vu lo hi sl Q I rx hs pl pu ⟨p, vs, rfl, .of t, got.lst S (cutL_rep r lo hi) g⟩
theorem de_sl {lo hi : Option Expr} {l h : DenO} (C : Cm G X W k) (ha : DE G X W a f) (hl : DO G X W lo l) (hh : DO G X W hi h) : DE G X W (.Subscript a (.Slice lo hi none p2) pos) (slE f l h) := by
  refine ⟨(pe_slice (sl_D C) ha.pe hl.po hh.po).imp ?_⟩
  intro σ H Q hq
  obtain ⟨ρ, st, α, E, S, q⟩ := hq
  refine ⟨ρ, st, α, E, S, (post.step (rp := Rep G.K) q).imp fun x H1 ⟨d, s1, α1, l1, S1, R, q⟩ => ?_⟩
  refine ⟨ρ, s1, α1, E.mono l1, S1, (post.step (rp := rpO) q).imp fun o H2 ⟨o1, s2, α2, l2, S2, R2, q2⟩ => ?_⟩
  refine ⟨ρ, s2, α2, (E.mono l1).mono l2, S2, (post.step (rp := rpO) q2).imp fun o' H3 ⟨o2, s3, α3, l3, S3, R3, q3⟩ => ?_⟩
  cases (show o = o1 from R2)
  cases (show o' = o2 from R3)
  exact ⟨d, s3, α3, S3, (R.mono l2).mono l3, got.of q3⟩
end
/-! ### t[::-1] -/
section
variable {prog : Program} {w : World} {A : Around} {E : Value → Shared → Prop} {s : Shared}
theorem places_back (n : Nat) : Builtin.Slice.slicePlaces ((n : Int) - 1) (-1) (-1) = n := by
  unfold Builtin.Slice.slicePlaces
  rw [if_neg (by decide)]
  by_cases h : n = 0
  · subst h; decide
  · rw [if_pos (by omega)]
    have : ((n : Int) - 1 - (-1) - 1) / (-(-1)) + 1 = n := by
      rw [show (-(-1 : Int)) = 1 by decide, Int.ediv_one]; omega
    rw [this]; simp
theorem adjust_back (n : Nat) : Builtin.Slice.sliceAdjust none none (-1) (n : Int) = ((n : Int) - 1, -1) := by
  unfold Builtin.Slice.sliceAdjust
  simp
theorem fm_congr {A B : Type} {f g : A → Option B} : ∀ l : List A, (∀ x ∈ l, f x = g x) → l.filterMap f = l.filterMap g
  | [], _ => rfl
  | x :: r, h => by
    rw [List.filterMap_cons, List.filterMap_cons, h x List.mem_cons_self, fm_congr r fun y hy => h y (List.mem_cons_of_mem _ hy)]
theorem pick_back (xs : Array Value) : ((List.range xs.size).filterMap fun (m : Nat) => xs[((xs.size : Int) - 1 + (m : Int) * (-1)).toNat]?).toArray = xs.toList.reverse.toArray := by
  congr 1
  have : ∀ l : List Value, ((List.range l.length).filterMap fun (m : Nat) => l[((l.length : Int) - 1 + (m : Int) * (-1)).toNat]?) = l.reverse := by
    intro l
    have e : ((List.range l.length).filterMap fun (m : Nat) => l[((l.length : Int) - 1 + (m : Int) * (-1)).toNat]?) = (List.range l.length).filterMap fun m => l.reverse[m]? := by
      refine fm_congr _ fun m hm => ?_
      have hm : m < l.length := List.mem_range.mp hm
      rw [List.getElem?_reverse hm]
      congr 1
      omega
    rw [e]
    have : ∀ (l : List Value), (List.range l.length).filterMap (fun m => l[m]?) = l := by
      intro l
      induction l with
      | nil => rfl
      | cons x r ih =>
        rw [List.length_cons, List.range_succ_eq_map, List.filterMap_cons, List.filterMap_map]
        simp only [List.getElem?_cons_zero]
        congr 1
    rw [← List.length_reverse]
    exact this _
  have h := this xs.toList
  simpa using h
/-- what a tuple's slot does with a slice, the slice's fields at hand: t[::-1] (the library has the step 1 alone; this follows its walk) -/
theorem tup_back {tA sA : Addr} {xs : Array Value} {f1 f2 f3 : Value} {Q : Value → Shared → Prop} (hT : IsTup s.heap tA xs) (hS : s.heap.IsSliceOf sA f1 f2 f3) (p1 : IsPart f1 none) (p2 : IsPart f2 none) (p3 : IsPart f3 (some (-1)))
    (h : Q (.ref s.heap.objs.size) { s with heap := s.heap.push { cls := .type "tuple", data := .seq xs.toList.reverse.toArray } }) (few : xs.size ≤ sizeLine) : wpAny (model prog w) A (getItem (.ref tA) (.ref sA)) Q E s := by
  have room : sizeOk (.seq xs.toList.reverse.toArray) := by
    show xs.toList.reverse.toArray.size ≤ sizeLine
    rw [List.size_toArray, List.length_reverse, Array.length_toList]
    exact few
  obtain ⟨ob, e1, e2, e3⟩ := id hS
  have isSl : s.TypeIs (.ref sA) "slice" := ⟨ob, e1, e2⟩
  have cast : Builtin.Slice.sliceAdjust none none (-1) (xs.size : Int) = ((xs.size : Int) - 1, -1) := adjust_back _
  unfold getItem
  try (with_reducible refine wpAny_holding ?_)
  first | (refine wpAny_bind (wpAny_pure ?_)) | skip
  refine wpAny_bind (wpAny_sequenceKey hT.typeIs (by decide) (wpAny_bind (wpAny_callSpecial?_slot (name := Str.ofString "__getitem__") hT.typeIs PyProof.Rows.slot_tuple_getitem (wpAny_call_entry PyProof.Rows.slot_tuple_getitem hT.typeIs entry_tuple_getitem ?_ (args_tuple_getitem _ _)))))
  show wpAny _ _ (Builtin.Tuple.tupleItemsOf (.ref tA) >>= _) _ _ s
  refine wpAny_bind (tupleItemsOf_ hT (wpAny_bind (wpAny_typeOf isSl ?_)))
  rw [if_pos (by decide)]
  refine wpAny_bind (?_ : wpAny _ _ (Builtin.Slice.sliceApplied (.ref sA) (pure (xs.size : Int))) _ _ s)
  unfold Builtin.Slice.sliceApplied Builtin.Slice.sliceFields
  refine wpAny_bind (wpAny_bind (wpAny_field e1 e3 (x := f1) rfl (wpAny_bind (wpAny_field e1 e3 (x := f2) rfl (wpAny_bind (wpAny_field e1 e3 (x := f3) rfl (wpAny_pure (wpAny_bind (HT.slicePart_ p3 ?_)))))))))
  show wpAny _ _ (if ((-1 : Int) == 0) = true then _ else _) _ _ s
  rw [if_neg (by decide)]
  refine wpAny_bind (HT.slicePart_ p1 (wpAny_bind (HT.slicePart_ p2 (wpAny_bind (wpAny_pure ?_)))))
  show wpAny _ _ (match Builtin.Slice.sliceAdjust none none (-1) (xs.size : Int) with | (b, e) => pure (b, (-1 : Int), Builtin.Slice.slicePlaces b e (-1))) _ _ s
  rw [cast]
  show wpAny _ _ (pure (((xs.size : Int) - 1), (-1 : Int), Builtin.Slice.slicePlaces ((xs.size : Int) - 1) (-1) (-1))) _ _ s
  rw [places_back]
  refine wpAny_pure ?_
  have other : ¬ ((((xs.size : Int) - 1) == 0 && (-1 : Int) == 1 && xs.size == xs.size) = true) := by simp
  show wpAny _ _ (if ((((xs.size : Int) - 1) == 0 && (-1 : Int) == 1 && xs.size == xs.size) = true) then _ else _) _ _ s
  rw [if_neg other, pick_back]
  first
    | exact wpAny_bind (m := Builtin.Tuple.tupleExact _) (wpAny_newObj_type (wpAny_pure ⟨_, rfl, wpAny_pure h⟩) room)
    | exact wpAny_bind (m := Builtin.Tuple.tupleExact _) (wpAny_newObj_type (wpAny_bind (wpAny_pure (wpAny_pure ⟨_, rfl, wpAny_pure h⟩))) room)
    | exact wpAny_bind (wpAny_bind (m := Builtin.Tuple.tupleExact _) (wpAny_newObj_type (wpAny_pure (wpAny_pure ⟨_, rfl, wpAny_pure h⟩)) room))
    | exact wpAny_bind (wpAny_bind (m := Builtin.Tuple.tupleExact _) (wpAny_newObj_type (wpAny_pure ⟨_, rfl, wpAny_pure h⟩) room))
end
section
variable {G : Gm} {W : WX} {X : Cx} {k : Nat} {a : Expr} {f : Den} {te : TE}
def tTupBack (K : PySem.W.Frag) (te : TE) : TE := fun σ H Q => te σ H fun x H1 => ∃ a xs, x = .ref a ∧ SqT K H1 a xs ∧ ∀ (p : Addr) (o : Obj), H1 p = none → o.dict = none → Q (.ref p) (upd H1 p (.frz o (.tup xs.reverse)))
theorem pe_tupBack {e : Expr} {kk : Nat} {q1 q2 q3 pos : Pos} (he : PE X e te) : PE X (.Subscript e (.Slice none none (some (.UnaryOp .USub (.Constant (.int 1) kk q1) q2)) q3) pos) (tTupBack X.K te) := by
  have step : PO X (some (.UnaryOp .USub (.Constant (.int 1) kk q1) q2)) (tPart (tUn (rU fun i => .int (-i)) (tC (.int 1)))) := po_some (pe_un un_neg pe_int)
  constructor
  intro pins s σ H Q I h
  refine Subscript_ (thn (he.run pins s σ H _ I h) ?_)
  rintro v s1 ⟨x, H1, I1, rv, a, xs, rfl, hx, q⟩
  cases rv
  refine wpAny_Slice (thn (po_none.run pins s1 σ H1 (fun o Ho => o = none ∧ Ho = H1) I1 ⟨rfl, rfl⟩) ?_)
  rintro f1 s2 ⟨_, _, I2, p1, rfl, rfl⟩
  refine thn (po_none.run pins s2 σ _ (fun o Ho => o = none ∧ Ho = _) I2 ⟨rfl, rfl⟩) ?_
  rintro f2 s3 ⟨_, _, I3, p2, rfl, rfl⟩
  refine thn (step.run pins s3 σ _ (fun o Ho => o = some (-1) ∧ Ho = _) I3 ⟨1, rfl, -1, rfl, rfl, rfl⟩) ?_
  rintro f3 s4 ⟨_, _, I4, p3, rfl, rfl⟩
  have J := I4.kept (h' := s4.heap.push { cls := .type "slice", data := .fields #[f1, f2, f3] }) (t' := s4.toks) fun b ob z => Heap.get?_push_of_some _ z
  obtain ⟨its, r, hT, few⟩ := J.tuple hx
  have len := r.length
  show wpAny (model X.prog X.w) X.A (subscriptTail e _ (.ref a) (.ref s4.heap.objs.size)) (EP X pins σ Q) X.xe { s4 with heap := s4.heap.push { cls := .type "slice", data := .fields #[f1, f2, f3] } }
  refine tail_any (ops := [.ref a, .ref s4.heap.objs.size]) hT.typeIs (PyProof.Rows.slot_tuple_getitem.lookup) ?_ (by with_unfolding_all rfl)
  exact tup_back hT (Heap.IsSliceOf.new _ f1 f2 f3) p1 p2 p3 (lay_tup (n := 0) J r.reverse (by rw [List.length_reverse]; exact few) q) (by rw [List.size_toArray]; omega)
theorem de_rev {kk : Nat} {p1 p2 p3 pos : Pos} (C : Cm G X W k) (ha : DE G X W a f) : DE G X W (.Subscript a (.Slice none none (some (.UnaryOp .USub (.Constant (.int 1) kk p1) p2)) p3) pos) (op1 revD f) := by
  refine ⟨⟨fun pins s σ H Q I hq => ?_⟩⟩
  obtain ⟨ρ, st, α, E, S, q⟩ := hq
  have q1 := post.step (rp := Rep G.K) (r := f ρ st) q
  by_cases ht : ∃ xs s1, f ρ st = .ok (.tup xs) s1
  · obtain ⟨xs, s1, hf⟩ := ht
    refine (pe_tupBack ha.pe).run pins s σ H Q I ⟨ρ, st, α, E, S, ?_⟩
    rw [hf] at q1 ⊢
    intro x α1 H1 l S1 R
    obtain ⟨d, s2, α2, l2, S2, R2, w⟩ := q1 x α1 H1 l S1 R
    obtain ⟨p, vs, rfl, t, r⟩ := R.tupOf
    have g : got G α1 H1 s1 (some (.tup xs.reverse)) Q := by
      have g := q
      unfold op1 at g
      rw [hf] at g
      exact fun v α' H' l' S' R' => g v α' H' (l.trans l') S' R'
    exact ⟨p, vs, rfl, by rw [C.K]; exact t.seq, got.tup S1 r.reverse g⟩
  · refine (pe_revL ha.pe).run pins s σ H Q I ⟨ρ, st, α, E, S, ?_⟩
    unfold op1 at q
    cases hf : f ρ st with
    | stuck => rw [hf] at q; exact q
    | exc c s1 => rw [hf] at q; exact q
    | ok d s1 =>
      rw [hf] at q
      intro x α1 H1 l S1 R
      have g : got G α1 H1 s1 (revD d s1) Q := got.of (post.mono l q)
      unfold revD at g
      split at g
      · rename_i xs
        exact absurd ⟨xs, s1, hf⟩ ht
      · cases hv : viewL s1 d with
        | none => rw [hv] at g; exact g.elim
        | some xs =>
          rw [hv] at g
          obtain ⟨p, vs, rfl, t, r⟩ := viewL_ok S1 R hv
          exact ⟨p, vs, rfl, .of t, got.lst S1 r.reverse g⟩
end
end DL

namespace DL
open PySem PySem.Spec PyProof.Rows L2

/-! ### leaving cells behind -/
mutual
/-- no cell from n on -/
def lo (n : Nat) : D → Bool
  | .ref m => decide (m < n)
  | .tup xs => loL n xs
  | .lst xs => loL n xs
  | .non => true
  | .bl _ => true
  | .int _ => true
  | .str _ => true
  | .scr _ => true
  | .ltp xs => loL n xs
def loL (n : Nat) : List D → Bool
  | [] => true
  | x :: xs => lo n x && loL n xs
end
def loKV (n : Nat) (kvs : List (D × D)) : Bool := kvs.all fun p => lo n p.1 && lo n p.2
def loC (n : Nat) : Cell → Bool
  | .lst xs => loL n xs
  | .dct _ kvs => loKV n kvs
  | .ins _ fs => fs.all fun p => lo n p.2
  | .lkd _ kvs => loKV n kvs
section
variable {K : PySem.W.Frag} {G : Gm} {α β : List Addr} {H H0 : Hp} {st s : Store}
theorem LstAt.cut {a : Addr} {vs : List V} (h : LstAt (α ++ β) H a vs) : LstAt α H a vs := ⟨fun m => h.1 (List.mem_append_left _ m), h.2⟩
theorem TupAt.cut {a : Addr} {vs : List V} (h : TupAt K (α ++ β) H a vs) : TupAt K α H a vs := by
  rcases h with ⟨n, h⟩ | h
  · exact .inl ⟨fun m => n (List.mem_append_left _ m), h⟩
  · exact .inr h
theorem ltp_cut {a : Addr} {vs : List V} (h : a ∉ α ++ β ∧ Rd H a (.tup vs)) : a ∉ α ∧ Rd H a (.tup vs) := ⟨fun m => h.1 (List.mem_append_left _ m), h.2⟩
theorem ScrAt.cut {a : Addr} {vs : List V} (h : ScrAt K (α ++ β) H a vs) : ScrAt K α H a vs := by
  rcases h with ⟨n, h⟩ | h
  · exact .inl ⟨fun m => n (List.mem_append_left _ m), h⟩
  · exact .inr h
mutual
theorem Rep.cut : ∀ {d : D} {v : V}, Rep K (α ++ β) H d v → lo α.length d = true → Rep K α H d v
  | .non, _, h, _ => h
  | .bl _, _, h, _ => h
  | .int _, _, h, _ => h
  | .str _, _, h, _ => h
  | .tup xs, _, h, l => by
    obtain ⟨a, vs, e, t, r⟩ := (show ∃ a vs, _ ∧ TupAt K (α ++ β) H a vs ∧ RepL K (α ++ β) H xs vs from h)
    exact ⟨a, vs, e, t.cut, RepL.cut r l⟩
  | .lst xs, _, h, l => by
    obtain ⟨a, vs, e, t, r⟩ := (show ∃ a vs, _ ∧ LstAt (α ++ β) H a vs ∧ RepL K (α ++ β) H xs vs from h)
    exact ⟨a, vs, e, t.cut, RepL.cut r l⟩
  | .ref n, _, h, l => by
    obtain ⟨a, e, q⟩ := (show ∃ a, _ ∧ (α ++ β)[n]? = some a from h)
    rw [List.getElem?_append_left (of_decide_eq_true l)] at q
    exact ⟨a, e, q⟩
  | .ltp xs, _, h, l => by
    obtain ⟨a, vs, e, t, r⟩ := (show ∃ a vs, _ ∧ (a ∉ α ++ β ∧ Rd H a (.tup vs)) ∧ RepL K (α ++ β) H xs vs from h)
    exact ⟨a, vs, e, ltp_cut t, RepL.cut r l⟩
  | .scr ns, _, h, _ => by
    obtain ⟨a, e, q⟩ := (show ∃ a, _ ∧ ScrAt K (α ++ β) H a (ns.map V.int) from h)
    exact ⟨a, e, q.cut⟩
theorem RepL.cut : ∀ {ds : List D} {vs : List V}, RepL K (α ++ β) H ds vs → loL α.length ds = true → RepL K α H ds vs
  | [], _, h, _ => h
  | x :: xs, _, h, l => by
    obtain ⟨v, r, e, h1, h2⟩ := (show ∃ v r, _ ∧ Rep K (α ++ β) H x v ∧ RepL K (α ++ β) H xs r from h)
    obtain ⟨l1, l2⟩ := Bool.and_eq_true_iff.mp (show (lo α.length x && loL α.length xs) = true from l)
    exact ⟨v, r, e, Rep.cut h1 l1, RepL.cut h2 l2⟩
end
mutual
theorem Rep.lo : ∀ {d : D} {v : V}, Rep K α H d v → lo α.length d = true
  | .non, _, _ => rfl
  | .bl _, _, _ => rfl
  | .int _, _, _ => rfl
  | .str _, _, _ => rfl
  | .tup xs, _, h => by
    obtain ⟨a, vs, e, t, r⟩ := (show ∃ a vs, _ ∧ TupAt K α H a vs ∧ RepL K α H xs vs from h)
    exact RepL.lo r
  | .lst xs, _, h => by
    obtain ⟨a, vs, e, t, r⟩ := (show ∃ a vs, _ ∧ LstAt α H a vs ∧ RepL K α H xs vs from h)
    exact RepL.lo r
  | .ref n, _, h => by
    obtain ⟨a, e, q⟩ := (show ∃ a, _ ∧ α[n]? = some a from h)
    exact decide_eq_true (List.getElem?_eq_some_iff.mp q).1
  | .scr ns, _, _ => rfl
  | .ltp xs, _, h => by
    obtain ⟨a, vs, e, t, r⟩ := (show ∃ a vs, _ ∧ (a ∉ α ∧ Rd H a (.tup vs)) ∧ RepL K α H xs vs from h)
    exact RepL.lo r
theorem RepL.lo : ∀ {ds : List D} {vs : List V}, RepL K α H ds vs → loL α.length ds = true
  | [], _, _ => rfl
  | x :: xs, _, h => by
    obtain ⟨v, r, e, h1, h2⟩ := (show ∃ v r, _ ∧ Rep K α H x v ∧ RepL K α H xs r from h)
    exact Bool.and_eq_true_iff.mpr ⟨Rep.lo h1, RepL.lo h2⟩
end
theorem lo_kD (k : Key) (n : Nat) : lo n (kD k) = true := by cases k <;> rfl
theorem loL_kD (n : Nat) : ∀ ks : List Key, loL n (ks.map kD) = true
  | [] => rfl
  | k :: ks => Bool.and_eq_true_iff.mpr ⟨lo_kD k n, loL_kD n ks⟩
theorem DctU.lo {a : Addr} {t : Bool} {u : HO} {kvs : List (D × D)} (h : DctU G α H a t u kvs) : loKV α.length kvs = true := by
  have two : ∀ {κ : Type} {F : D × D → κ → Prop} {xs : List (D × D)} {ys : List κ}, Paired F xs ys → (∀ p q, F p q → DL.lo α.length p.1 = true ∧ DL.lo α.length p.2 = true) → loKV α.length xs = true := by
    intro κ F xs ys p hF
    induction p with
    | nil => rfl
    | cons r _ ih =>
      obtain ⟨h1, h2⟩ := hF _ _ r
      show ((DL.lo α.length _ && DL.lo α.length _) && loKV α.length _) = true
      rw [h1, h2, ih]; rfl
  cases t with
  | false => obtain ⟨ks, e, p⟩ := h; exact two p fun p q r => ⟨by rw [r.1]; exact lo_kD _ _, r.2.2.lo⟩
  | true => obtain ⟨ks, e, p⟩ := h; exact two p fun p q ⟨_, _, r1, v, _, r2⟩ => ⟨r1.lo, r2.lo⟩
theorem DctU.cut {a : Addr} {t : Bool} {u : HO} {kvs : List (D × D)} (h : DctU G (α ++ β) H a t u kvs) (l : loKV α.length kvs = true) : DctU G α H a t u kvs := by
  have two : ∀ {κ : Type} {F F' : D × D → κ → Prop} {xs : List (D × D)} {ys : List κ}, Paired F xs ys → loKV α.length xs = true → (∀ p q, DL.lo α.length p.1 = true → DL.lo α.length p.2 = true → F p q → F' p q) → Paired F' xs ys := by
    intro κ F F' xs ys p l hF
    induction p with
    | nil => exact .nil
    | cons r _ ih =>
      obtain ⟨l1, l2⟩ := Bool.and_eq_true_iff.mp (show ((DL.lo α.length _ && DL.lo α.length _) && loKV α.length _) = true from l)
      obtain ⟨l3, l4⟩ := Bool.and_eq_true_iff.mp l1
      exact .cons (hF _ _ l3 l4 r) (ih l2)
  cases t with
  | false => obtain ⟨ks, e, p⟩ := h; exact ⟨ks, e, two p l fun p q _ l2 r => ⟨r.1, r.2.1, r.2.2.cut l2⟩⟩
  | true => obtain ⟨ks, e, p⟩ := h; exact ⟨ks, e, two p l fun p q l1 l2 ⟨r1, r2, r3, v, r4, r5⟩ => ⟨r1, r2, r3.cut l1, v, r4, r5.cut l2⟩⟩
theorem CellAtD.lo {a : Addr} {c : Cell} (h : CellAtD G α H a c) : loC α.length c = true := by
  cases c with
  | lst xs => obtain ⟨vs, e, r⟩ := h; exact r.lo
  | dct t kvs => obtain ⟨u, e, r⟩ := h; exact r.lo
  | lkd t kvs => obtain ⟨o, u, e, r⟩ := h; exact r.lo
  | ins c fs =>
    obtain ⟨dx, gs, e, e2, n, p⟩ := h
    show (fs.all fun p => DL.lo α.length p.2) = true
    clear e e2
    induction p with
    | nil => rfl
    | cons r _ ih =>
      rw [List.all_cons, ih, Bool.and_true]
      exact r.2.lo
theorem CellAtD.cut {a : Addr} {c : Cell} (h : CellAtD G (α ++ β) H a c) (l : loC α.length c = true) : CellAtD G α H a c := by
  cases c with
  | lst xs => obtain ⟨vs, e, r⟩ := h; exact ⟨vs, e, r.cut l⟩
  | dct t kvs => obtain ⟨u, e, r⟩ := h; exact ⟨u, e, r.cut l⟩
  | lkd t kvs => obtain ⟨o, u, e, r⟩ := h; exact ⟨o, u, e, r.cut l⟩
  | ins c fs =>
    obtain ⟨dx, gs, e, e2, n, p⟩ := h
    refine ⟨dx, gs, e, e2, fun m => n (List.mem_append_left _ m), ?_⟩
    replace l : (fs.all fun p => DL.lo α.length p.2) = true := l
    clear e e2
    revert l
    induction p with
    | nil => exact fun _ => .nil
    | cons r _ ih =>
      intro l
      rw [List.all_cons] at l
      obtain ⟨l1, l2⟩ := Bool.and_eq_true_iff.mp l
      exact .cons ⟨r.1, r.2.cut l1⟩ (ih l2)
/-- the cells behind n may go -/
def CutS (st s : Store) : Prop := st.length ≤ s.length ∧ ∀ (i : Nat) (c : Cell), i < st.length → s[i]? = some c → st[i]? = some c ∨ loC st.length c = true
theorem SR.lo (S : SR G α st H) {i : Nat} {c : Cell} (e : st[i]? = some c) : loC st.length c = true := by
  obtain ⟨a, e1, h⟩ := S.get e
  rw [← S.len]
  exact h.lo
theorem SR.cut (S0 : SR G α st H0) (l : Le α H0 (α ++ β) H) (S : SR G (α ++ β) s H) (h : CutS st s) : SR G α (s.take st.length) H := by
  refine ⟨by rw [List.length_take, S0.len]; exact (Nat.min_eq_left h.1).symm, (List.nodup_append.mp S.nd).1, fun i a c e k => ?_⟩
  have hi : i < st.length := S0.lt e
  rw [List.getElem?_take_of_lt hi] at k
  have q := S.cell i a c (by rw [List.getElem?_append_left (by rw [S0.len]; exact hi)]; exact e) k
  refine q.cut ?_
  rw [S0.len]
  rcases h.2 i c hi k with z | z
  · exact S0.lo z
  · exact z
/-- from a world with more cells back -/
theorem Le.cut (l : Le α H0 (α ++ β) H) : Le α H0 α H := ⟨⟨[], by simp, by simp⟩, l.keep⟩
end
def cutB (st s : Store) (i : Nat) : Bool := match s[i]? with
  | some c => decide (st[i]? = some c) || loC st.length c
  | none => true
instance (st s : Store) : Decidable (CutS st s) := decidable_of_iff (st.length ≤ s.length ∧ (List.range st.length).all (cutB st s) = true) (by
  refine and_congr_right fun _ => ?_
  rw [List.all_eq_true]
  refine ⟨fun h i c hi e => ?_, fun h i hi => ?_⟩
  · have := h i (List.mem_range.mpr hi)
    unfold cutB at this
    rw [e] at this
    simpa using this
  · unfold cutB
    split
    · rename_i c e
      simpa using h i c (List.mem_range.mp hi) e
    · rfl)
def cutR (st : Store) (d : D) (s : Store) : Res D := if lo st.length d = true ∧ CutS st s then .ok d (s.take st.length) else .stuck
theorem cutR_post {G : Gm} {W : WX} {α α' : List Addr} {H0 H : Hp} {st s : Store} {d : D} {v : V} {σ : L2.St} {Q : VK} (S0 : SR G α st H0) (l : Le α H0 α' H) (S : SR G α' s H) (R : Rep G.K α' H d v) (h : post G W (Rep G.K) α H0 (cutR st d s) σ Q) : Q v H := by
  obtain ⟨β, rfl, _⟩ := l.pre
  unfold cutR at h
  split at h
  · rename_i hc
    exact h v α H l.cut (S0.cut l S hc.2) (R.cut (by rw [S0.len]; exact hc.1))
  · exact h.elim
/-! what is left behind when nothing was changed -/
theorem CutS.refl (st : Store) : CutS st st := ⟨Nat.le_refl _, fun _ _ _ e => .inl e⟩
theorem CutS.app (st r : Store) : CutS st (st ++ r) := ⟨by simp, fun i c hi e => .inl (by rw [List.getElem?_append_left hi] at e; exact e)⟩
theorem cutR_app {st r : Store} {d : D} (h : lo st.length d = true) : cutR st d (st ++ r) = .ok d st := by
  unfold cutR
  rw [if_pos ⟨h, CutS.app st r⟩, List.take_left']
  rfl
theorem cutR_refl {st : Store} {d : D} (h : lo st.length d = true) : cutR st d st = .ok d st := by
  have := cutR_app (r := []) h
  rwa [List.append_nil] at this
end DL

namespace DL
open PySem PySem.Spec PyProof.Rows L2

/-! ### targets -/
abbrev Tgt := D → Env → Option Env
abbrev Tgts := List D → Env → Option Env
def Agree (is : List Nat) (σ σ' : L2.St) : Prop := σ'.length = σ.length ∧ ∀ j, j ∉ is → σ'[j]? = σ[j]?
theorem Agree.refl {is : List Nat} {σ : L2.St} : Agree is σ σ := ⟨rfl, fun _ _ => rfl⟩
theorem Agree.trans {is js : List Nat} {σ σ' σ'' : L2.St} (h : Agree is σ σ') (k : Agree js σ' σ'') : Agree (is ++ js) σ σ'' :=
  ⟨k.1.trans h.1, fun j n => (k.2 j fun m => n (List.mem_append_right _ m)).trans (h.2 j fun m => n (List.mem_append_left _ m))⟩
def rdG (G : Gm) (t : Tgt) (is : List Nat) : TG := fun v σ H Q => ∃ d ρ α, EnvR G.K α H ρ σ ∧ Rep G.K α H d v ∧ ∃ ρ', t d ρ = some ρ' ∧ ∀ σ', EnvR G.K α H ρ' σ' → Agree is σ σ' → Q σ' H
def rdGs (G : Gm) (t : Tgts) (is : List Nat) : TGs := fun vs σ H Q => ∃ ds ρ α, EnvR G.K α H ρ σ ∧ RepL G.K α H ds vs ∧ ∃ ρ', t ds ρ = some ρ' ∧ ∀ σ', EnvR G.K α H ρ' σ' → Agree is σ σ' → Q σ' H
structure DG (G : Gm) (X : Cx) (tg : Expr) (t : Tgt) (is : List Nat) : Prop where
  pg : PG X tg (rdG G t is)
structure DGs (G : Gm) (X : Cx) (tgs : List Expr) (t : Tgts) (is : List Nat) : Prop where
  pgs : PGs X tgs (rdGs G t is)
  len : ∀ ds ρ ρ', t ds ρ = some ρ' → ds.length = tgs.length
def nmT (i : Nat) : Tgt := fun d ρ => some (ρ.set i (some d))
def nilT : Tgts := fun ds ρ => match ds with
  | [] => some ρ
  | _ => none
def consT (t : Tgt) (u : Tgts) : Tgts := fun ds ρ => match ds with
  | d :: r => (t d ρ).bind (u r)
  | [] => none
def tupT (u : Tgts) : Tgt := fun d ρ => match d with
  | .tup ds => u ds ρ
  | .ltp ds => u ds ρ
  | _ => none
theorem _root_.L2.PG.imp {X : Cx} {e : Expr} {t t' : TG} (h : PG X e t) (i : ∀ v σ H Q, t' v σ H Q → t v σ H Q) : PG X e t' := ⟨fun p s σ H v u Q I r q => h.run p s σ H v u Q I r (i v σ H Q q)⟩
theorem _root_.L2.PGs.imp {X : Cx} {e : List Expr} {t t' : TGs} (h : PGs X e t) (i : ∀ v σ H Q, t' v σ H Q → t v σ H Q) : PGs X e t' := ⟨fun p s σ H v u Q I r q => h.run p s σ H v u Q I r (i v σ H Q q)⟩
section
variable {G : Gm} {W : WX} {X : Cx} {k : Nat} {pos : Pos}
theorem dg_name (i : Nat) {x : Str} (hN : X.N.Nodup) (hi : X.N[i]? = some x := by rfl) (hx : Loc X.env.scope x := by first | exact Or.inl rfl | exact Or.inr rfl) (hf : X.fn x = true ∨ X.env.scope.names.lookup x = some .local := by first | exact .inl rfl | exact .inr rfl) : DG G X (.Name x pos) (nmT i) [i] := by
  refine ⟨(pg_name (i := i) hN hi hx hf).imp ?_⟩
  rintro v σ H Q ⟨d, ρ, α, E, R, ρ', e, q⟩
  cases e
  refine q _ (E.set R i) ⟨by simp, fun j n => ?_⟩
  rw [List.getElem?_set_ne (fun z => n (by simp [z]))]
theorem dgs_nil : DGs G X [] nilT [] := by
  refine ⟨pgs_nil.imp ?_, fun ds ρ ρ' e => ?_⟩
  · rintro v σ H Q ⟨ds, ρ, α, E, R, ρ', e, q⟩
    unfold nilT at e
    split at e
    · cases e
      cases (show v = [] from R)
      exact ⟨rfl, q _ E .refl⟩
    · cases e
  · unfold nilT at e
    split at e
    · rfl
    · cases e
theorem dgs_cons {e : Expr} {es : List Expr} {t : Tgt} {u : Tgts} {is js : List Nat} (h1 : DG G X e t is) (h2 : DGs G X es u js) (hs : (assignEach (e :: es) X.env).map (·.2) = assign e X.env :: (assignEach es X.env).map (·.2) := by rfl) : DGs G X (e :: es) (consT t u) (is ++ js) := by
  refine ⟨(pgs_cons h1.pg h2.pgs hs).imp ?_, fun ds ρ ρ' e => ?_⟩
  · rintro v σ H Q ⟨ds, ρ, α, E, R, ρ', e, q⟩
    cases ds with
    | nil => cases e
    | cons d r =>
      obtain ⟨w, ws, rfl, R1, R2⟩ := (show ∃ w ws, v = w :: ws ∧ Rep G.K α H d w ∧ RepL G.K α H r ws from R)
      have e : (t d ρ).bind (u r) = some ρ' := e
      cases h : t d ρ with
      | none => rw [h] at e; cases e
      | some ρ1 =>
        rw [h] at e
        refine ⟨w, ws, rfl, d, ρ, α, E, R1, ρ1, h, fun σ1 E1 a1 => ?_⟩
        exact ⟨r, ρ1, α, E1, R2, ρ', e, fun σ2 E2 a2 => q σ2 E2 (a1.trans a2)⟩
  · cases ds with
    | nil => cases e
    | cons d r =>
      have e : (t d ρ).bind (u r) = some ρ' := e
      cases h : t d ρ with
      | none => rw [h] at e; cases e
      | some ρ1 =>
        rw [h] at e
        simp [h2.len _ _ _ e]
theorem dg_tup {es : List Expr} {n : Nat} {u : Tgts} {is : List Nat} (C : Cm G X W k) (h : DGs G X es u is) (hn : (assignEach es X.env).length = es.length := by rfl) (hst : (assignEach es X.env).findIdx? (·.1) = none := by rfl) : DG G X (.Tuple es n pos) (tupT u) is := by
  refine ⟨(pg_tup C.calm h.pgs hn hst).imp ?_⟩
  rintro v σ H Q ⟨d, ρ, α, E, R, ρ', e, q⟩
  unfold tupT at e
  split at e
  · obtain ⟨a, vs, rfl, t, r⟩ := R.tupOf
    exact ⟨a, vs, rfl, by rw [C.K]; exact t.seq, by rw [← r.len]; exact h.len _ _ _ e, _, ρ, α, E, r, ρ', e, q⟩
  · rename_i xs
    obtain ⟨a, vs, rfl, t, r⟩ := (show ∃ a vs, v = V.ref a ∧ (a ∉ α ∧ Rd H a (.tup vs)) ∧ RepL G.K α H xs vs from R)
    exact ⟨a, vs, rfl, .inl t.2, by rw [← r.len]; exact h.len _ _ _ e, _, ρ, α, E, r, ρ', e, q⟩
  · cases e
end

/-! ### what is walked -/
structure ItD where
  items : List D
  /-- a cell that is read as the walk goes -/
  src : Option (Nat × List D)
def ItD.still (it : ItD) (st : Store) : Prop := match it.src with
  | none => True
  | some (n, xs) => st[n]? = some (.lst xs)
instance (it : ItD) (st : Store) : Decidable (it.still st) := by
  unfold ItD.still
  split
  · exact isTrue trivial
  · exact inferInstance
abbrev DenI := Env → Store → Res ItD
structure ItOk (G : Gm) (J : It) (it : ItD) (α0 : List Addr) (H0 : Hp) : Prop where
  go : ∀ (i : Nat) (x0 : D) (α : List Addr) (st : Store) (H : Hp), Le α0 H0 α H → SR G α st H → it.still st → it.items[i]? = some x0 → J.go i H ∧ ∀ x H', J.yld i H x H' → Le α H α H' ∧ SR G α st H' ∧ Rep G.K α H' x0 x
  stop : ∀ (α : List Addr) (st : Store) (H : Hp), Le α0 H0 α H → SR G α st H → it.still st → J.stop it.items.length H
def rpI (G : Gm) (α : List Addr) (H : Hp) (it : ItD) (J : It) : Prop := ItOk G J it α H
structure DI (G : Gm) (X : Cx) (W : WX) (tg e : Expr) (f : DenI) : Prop where
  pi : PI X tg e (rd G W (rpI G) f)
theorem _root_.L2.PI.imp {X : Cx} {tg e : Expr} {t t' : TI} (h : PI X tg e t) (i : ∀ σ H Q, t' σ H Q → t σ H Q) : PI X tg e t' := ⟨fun p s σ H Q I q => h.run p s σ H Q I (i σ H Q q)⟩
section
variable {G : Gm} {α : List Addr} {H : Hp} {st : Store}
theorem itok_lst {a : Addr} {xs : List D} {vs : List V} (t : LstAt α H a vs) (r : RepL G.K α H xs vs) : ItOk G (Itl G.K a) ⟨xs, none⟩ α H where
  go := fun i x0 α1 st1 H1 l S _ e => by
    obtain ⟨v, e1, R⟩ := (r.mono l).get e
    refine ⟨⟨vs, v, (t.mono l).seq, e1⟩, fun x H' y => ?_⟩
    obtain ⟨rfl, y⟩ := y
    have := y vs (t.mono l).seq
    rw [e1] at this
    cases this
    exact ⟨.refl, S, R⟩
  stop := fun α1 st1 H1 l S _ => ⟨vs, (t.mono l).seq, by rw [← r.len]; exact Nat.le_refl _⟩
theorem itok_scr {a : Addr} {ns : List Int} (t : ScrAt G.K α H a (ns.map V.int)) : ItOk G (Itl G.K a) ⟨ns.map D.int, none⟩ α H where
  go := fun i x0 α1 st1 H1 l S _ e => by
    obtain ⟨v, e1, R⟩ := (RepL.ints (K := G.K) (α := α1) (H := H1) ns).get e
    refine ⟨⟨_, v, (t.mono l).seq, e1⟩, fun x H' y => ?_⟩
    obtain ⟨rfl, y⟩ := y
    have := y _ (t.mono l).seq
    rw [e1] at this
    cases this
    exact ⟨.refl, S, R⟩
  stop := fun α1 st1 H1 l S _ => ⟨_, (t.mono l).seq, by simp⟩
theorem itok_tup {a : Addr} {xs : List D} {vs : List V} (t : TupAt G.K α H a vs) (r : RepL G.K α H xs vs) : ItOk G (Itt G.K a) ⟨xs, none⟩ α H where
  go := fun i x0 α1 st1 H1 l S _ e => by
    obtain ⟨v, e1, R⟩ := (r.mono l).get e
    refine ⟨⟨vs, v, (t.mono l).seq, e1⟩, fun x H' y => ?_⟩
    obtain ⟨rfl, y⟩ := y
    have := y vs (t.mono l).seq
    rw [e1] at this
    cases this
    exact ⟨.refl, S, R⟩
  stop := fun α1 st1 H1 l S _ => ⟨vs, (t.mono l).seq, by rw [← r.len]; exact Nat.le_refl _⟩
theorem itok_ref {n : Nat} {a : Addr} {xs : List D} (e : α[n]? = some a) : ItOk G (Itl G.K a) ⟨xs, some (n, xs)⟩ α H where
  go := fun i x0 α1 st1 H1 l S still e1 => by
    obtain ⟨vs, e2, r⟩ := S.cell n a _ (l.at e) still
    obtain ⟨v, e3, R⟩ := r.get e1
    refine ⟨⟨vs, v, .of e2, e3⟩, fun x H' y => ?_⟩
    obtain ⟨rfl, y⟩ := y
    have := y vs (.of e2)
    rw [e3] at this
    cases this
    exact ⟨.refl, S, R⟩
  stop := fun α1 st1 H1 l S still => by
    obtain ⟨vs, e2, r⟩ := S.cell n a _ (l.at e) still
    exact ⟨vs, .of e2, by rw [← r.len]; exact Nat.le_refl _⟩
def rangeD (lo : Int) (n : Nat) : List D := (List.range n).map fun i => .int (lo + (i : Nat))
theorem itok_range {lo : Int} {n : Nat} : ItOk G (Itr lo n) ⟨rangeD lo n, none⟩ α H where
  go := fun i x0 α1 st1 H1 l S _ e => by
    unfold rangeD at e
    rw [List.getElem?_map] at e
    cases h : (List.range n)[i]? with
    | none => rw [h] at e; cases e
    | some j =>
      rw [h] at e
      obtain ⟨h1, h2⟩ := List.getElem?_eq_some_iff.mp h
      have hi : i < n := by simpa using h1
      have hj : j = i := by rw [← h2]; simp
      subst hj
      cases e
      refine ⟨hi, fun x H' y => ?_⟩
      obtain ⟨rfl, rfl⟩ := y
      exact ⟨.refl, S, rfl⟩
  stop := fun α1 st1 H1 l S _ => by show n ≤ _; unfold rangeD; simp
end
def itD (d : D) (st : Store) : Option ItD := match d with
  | .lst xs => some ⟨xs, none⟩
  | .tup xs => some ⟨xs, none⟩
  | .scr ns => some ⟨ns.map D.int, none⟩
  | .ref n => match st[n]? with
    | some (.lst xs) => some ⟨xs, some (n, xs)⟩
    | _ => none
  | _ => none
def itE (f : Den) : DenI := fun ρ st => (f ρ st).bind fun d s => Res.of (itD d s) s
def rng1D (d : D) : Option ItD := match d with
  | .int j => if -(2 ^ 62) ≤ j ∧ j < 2 ^ 62 then some ⟨rangeD 0 j.toNat, none⟩ else none
  | _ => none
def rng2D (a b : D) : Option ItD := match a, b with
  | .int i, .int j => if -(2 ^ 62) ≤ i ∧ i < 2 ^ 62 ∧ -(2 ^ 62) ≤ j ∧ j < 2 ^ 62 then some ⟨rangeD i (j - i).toNat, none⟩ else none
  | _, _ => none
def rng1E (f : Den) : DenI := fun ρ st => (f ρ st).bind fun d s => Res.of (rng1D d) s
def rng2E (f g : Den) : DenI := fun ρ st => (f ρ st).bind fun a s => (g ρ s).bind fun b s2 => Res.of (rng2D a b) s2
section
variable {G : Gm} {W : WX} {X : Cx} {k : Nat} {tg a b : Expr} {f g : Den} {tl : TE}
theorem di_seq (C : Cm G X W k) (h : DE G X W a f) : DI G X W tg a (itE f) := by
  refine ⟨⟨fun pins s σ H Q I hq => ?_⟩⟩
  obtain ⟨ρ, st, α, E, S, q⟩ := hq
  unfold itE at q
  by_cases ht : ∃ xs s1, f ρ st = .ok (.tup xs) s1
  · obtain ⟨xs, s1, hf⟩ := ht
    refine (pi_tup h.pe).run pins s σ H Q I ⟨ρ, st, α, E, S, ?_⟩
    rw [hf] at q ⊢
    intro x α1 H1 l S1 R
    obtain ⟨a, vs, rfl, t, r⟩ := R.tupOf
    rw [C.K]
    exact ⟨a, rfl, ⟨vs, t.seq⟩, q _ α1 H1 l S1 (itok_tup t r)⟩
  · refine (pi_list h.pe).run pins s σ H Q I ⟨ρ, st, α, E, S, ?_⟩
    cases hf : f ρ st with
    | stuck => rw [hf] at q; exact q
    | exc c s1 => rw [hf] at q; exact q
    | ok d s1 =>
      rw [hf] at q
      intro x α1 H1 l S1 R
      replace q : post G W (rpI G) α1 H1 (Res.of (itD d s1) s1) σ Q := post.mono l q
      rw [C.K]
      unfold itD at q
      split at q
      · rename_i xs
        obtain ⟨a, vs, rfl, t, r⟩ := (show ∃ a vs, _ ∧ LstAt α1 H1 a vs ∧ RepL G.K α1 H1 xs vs from R)
        exact ⟨a, rfl, ⟨vs, t.seq⟩, q _ α1 H1 .refl S1 (itok_lst t r)⟩
      · rename_i xs
        exact absurd ⟨xs, s1, hf⟩ ht
      · rename_i ns
        obtain ⟨a, rfl, t⟩ := (show ∃ a, _ ∧ ScrAt G.K α1 H1 a (ns.map V.int) from R)
        exact ⟨a, rfl, ⟨_, t.seq⟩, q _ α1 H1 .refl S1 (itok_scr t)⟩
      · rename_i n
        obtain ⟨a, rfl, e⟩ := (show ∃ a, _ ∧ α1[n]? = some a from R)
        split at q
        · rename_i xs hs
          obtain ⟨vs, e2, r⟩ := S1.cell n a _ e hs
          exact ⟨a, rfl, ⟨vs, .of e2⟩, q _ α1 H1 .refl S1 (itok_ref e)⟩
        · exact q.elim
      · exact q.elim
theorem di_range1 {p pos : Pos} (hg : Gl X "range") (hm : X.mg "range" = none) (h : DE G X W a f) (hs : starEach [a] X.env = (false, eval a X.env) :: starEach [] X.env := by rfl) : DI G X W tg (.Call (.Name "range" p) [a] [] pos) (rng1E f) := by
  refine ⟨(pi_range1 hg hm (pa_cons h.pe pa_nil hs) hs).imp ?_⟩
  intro σ H Q hq
  obtain ⟨ρ, st, α, E, S, q⟩ := hq
  refine ⟨ρ, st, α, E, S, (post.step (rp := Rep G.K) q).imp fun x H1 ⟨d, s1, α1, l, S1, R, q⟩ => ?_⟩
  unfold rng1D at q
  split at q
  · rename_i j
    cases (show x = V.int j from R)
    split at q
    · rename_i hj
      exact ⟨j, rfl, hj.1, hj.2, q _ α1 H1 .refl S1 itok_range⟩
    · exact q.elim
  · exact q.elim
theorem di_range2 {p pos : Pos} (hg : Gl X "range") (hm : X.mg "range" = none) (h : DE G X W a f) (h2 : DE G X W b g) (hs : starEach [a, b] X.env = (false, eval a X.env) :: starEach [b] X.env := by rfl) (hs2 : starEach [b] X.env = (false, eval b X.env) :: starEach [] X.env := by rfl) :
    DI G X W tg (.Call (.Name "range" p) [a, b] [] pos) (rng2E f g) := by
  refine ⟨(pi_range2 hg hm (pa_cons h.pe (pa_cons h2.pe pa_nil hs2) hs) (hs.trans (by rw [hs2]; rfl)) hs2).imp ?_⟩
  intro σ H Q hq
  obtain ⟨ρ, st, α, E, S, q⟩ := hq
  refine ⟨ρ, st, α, E, S, (post.step (rp := Rep G.K) q).imp fun x H1 ⟨d, s1, α1, l, S1, R, q⟩ => ?_⟩
  refine ⟨ρ, s1, α1, E.mono l, S1, (post.step (rp := Rep G.K) q).imp fun y H2 ⟨e, s2, α2, l2, S2, R2, q2⟩ => ?_⟩
  have R1 := R.mono l2
  cases d with
  | int i =>
    cases e with
    | int j =>
      have q2 : post G W (rpI G) α2 H2 (Res.of (if -(2 ^ 62) ≤ i ∧ i < 2 ^ 62 ∧ -(2 ^ 62) ≤ j ∧ j < 2 ^ 62 then some ⟨rangeD i (j - i).toNat, none⟩ else none) s2) σ Q := q2
      cases (show x = V.int i from R1)
      cases (show y = V.int j from R2)
      split at q2
      · rename_i hj
        exact ⟨i, j, rfl, hj, q2 _ α2 H2 .refl S2 itok_range⟩
      · exact q2.elim
    | _ => exact q2.elim
  | _ => exact q2.elim
end

/-! ### for -/
def killE : List Nat → Env → Env
  | [], ρ => ρ
  | i :: r, ρ => killE r (ρ.set i none)
theorem EnvR.kills {K : PySem.W.Frag} {α : List Addr} {H : Hp} {σ : L2.St} : ∀ {ks : List Nat} {ρ : Env}, EnvR K α H ρ σ → EnvR K α H (killE ks ρ) σ
  | [], _, h => h
  | i :: r, ρ, h => EnvR.kills (ks := r) (h.kill i)
/-- behind a turn -/
def turnO (ks : List Nat) (o : Out) (more : Env → Store → Out) : Out := match o with
  | .next ρ2 s2 => more (killE ks ρ2) s2
  | .cont ρ2 s2 => more (killE ks ρ2) s2
  | .brk ρ2 s2 => .next (killE ks ρ2) s2
  | .ret d s => .ret d s
  | .exc c ρ s => .exc c ρ s
  | .stuck => .stuck
/-- what a target gives, then the turn -/
def tgtO (o : Option Env) (more : Env → Out) : Out := match o with
  | some ρ => more ρ
  | none => .stuck
def forGo (it : ItD) (tg : Tgt) (body : DenS) (ks : List Nat) : List D → Env → Store → Out
  | [], ρ, st => if it.still st then .next ρ st else .stuck
  | x :: r, ρ, st => if it.still st then tgtO (tg x ρ) fun ρ' => turnO ks (body ρ' st) fun ρ2 s2 => forGo it tg body ks r ρ2 s2 else .stuck
def forS (f : DenI) (tg : Tgt) (body : DenS) (ks : List Nat) : DenS := fun ρ st => match f ρ st with
  | .ok it s => forGo it tg body ks it.items ρ s
  | .exc c s => .exc c ρ s
  | .stuck => .stuck
section
variable {G : Gm} {W : WX} {X : Cx} {k : Nat} {tg iter : Expr} {body : List Stmt} {f : DenI} {t : Tgt} {b : DenS} {is : List Nat} {pos : Pos}
theorem ds_for (ks : List Nat) (C : Cm G X W k) (hp : PassesOwn (model X.prog X.w) X.A X.env X.xe) (hi : DI G X W tg iter f) (hg : DG G X tg t is) (hb : DSs G X W body b) (hs : ∀ x, foldedSetIterable iter X.env x = pure x := by intro _; rfl) :
    DS G X W (.For tg iter body [] pos) (forS f t b ks) := by
  refine ⟨(ps_for hp C.calm hi.pi hg.pg hb.ps hs).imp ?_⟩
  intro D σ H hq
  obtain ⟨ρ, st, α, E, S, q⟩ := hq
  refine ⟨ρ, st, α, E, S, ?_⟩
  unfold forS at q
  cases hf : f ρ st with
  | stuck => rw [hf] at q; exact q
  | exc c s => rw [hf] at q; exact fun α1 H1 l S1 => q σ α1 H1 l S1 (E.mono l)
  | ok it s =>
    rw [hf] at q
    intro J α0 H0 l0 S0 hJ
    have q : postS G W α H (forGo it t b ks it.items ρ s) D := q
    refine ⟨fun i m σ1 H1 => ∃ rest ρ1 st1 α1, it.items.drop i = rest ∧ i ≤ it.items.length ∧ m = rest.length ∧ Le α0 H0 α1 H1 ∧ EnvR G.K α1 H1 ρ1 σ1 ∧ SR G α1 st1 H1 ∧ postS G W α1 H1 (forGo it t b ks rest ρ1 st1) D,
      ⟨_, _, ρ, s, α0, rfl, Nat.zero_le _, rfl, .refl, E.mono l0, S0, postS.mono l0 q⟩, ?_⟩
    rintro i m σ1 H1 ⟨rest, ρ1, st1, α1, e1, hi, rfl, l1, E1, S1, q1⟩
    cases rest with
    | nil =>
      unfold forGo at q1
      split at q1
      · rename_i still
        have hlen : i = it.items.length := Nat.le_antisymm hi (by simpa using e1)
        subst hlen
        exact .inl ⟨hJ.stop α1 st1 H1 l1 S1 still, q1 σ1 α1 H1 .refl S1 E1⟩
      · exact q1.elim
    | cons x r =>
      unfold forGo at q1
      split at q1
      · rename_i still
        have hx : it.items[i]? = some x := by
          have := congrArg List.head? e1
          simpa using this
        have hilt : i < it.items.length := (List.getElem?_eq_some_iff.mp hx).1
        have hr : it.items.drop (i + 1) = r := by
          have := congrArg List.tail e1
          simpa using this
        obtain ⟨jgo, jy⟩ := hJ.go i x α1 st1 H1 l1 S1 still hx
        refine .inr ⟨jgo, fun σ2 H2 => ∃ ρ2 st2 α2, Le α0 H0 α2 H2 ∧ EnvR G.K α2 H2 ρ2 σ2 ∧ SR G α2 st2 H2 ∧ postS G W α2 H2 (forGo it t b ks r ρ2 st2) D, fun σ2 H2 ⟨ρ2, st2, α2, l2, E2, S2, q2⟩ => ⟨r.length, by simp, r, ρ2, st2, α2, hr, hilt, rfl, l2, E2, S2, q2⟩, fun v H2 y => ?_⟩
        obtain ⟨l2, S2, R2⟩ := jy v H2 y
        cases ht : t x ρ1 with
        | none => rw [ht] at q1; exact q1.elim
        | some ρ' =>
          rw [ht] at q1
          refine ⟨x, ρ1, α1, E1.mono l2, R2, ρ', ht, fun σ' E' _ => ?_⟩
          refine ⟨ρ', st1, α1, E', S2, ?_⟩
          replace q1 : postS G W α1 H2 (turnO ks (b ρ' st1) fun ρ2 s2 => forGo it t b ks r ρ2 s2) D := postS.mono l2 q1
          cases hbd : b ρ' st1 with
          | next ρ2 s2 =>
            rw [hbd] at q1
            exact fun σ3 α3 H3 l3 S3 E3 => ⟨_, s2, α3, (l1.trans l2).trans l3, E3.kills, S3, postS.mono l3 q1⟩
          | cont ρ2 s2 =>
            rw [hbd] at q1
            exact fun σ3 α3 H3 l3 S3 E3 => ⟨_, s2, α3, (l1.trans l2).trans l3, E3.kills, S3, postS.mono l3 q1⟩
          | brk ρ2 s2 =>
            rw [hbd] at q1
            exact fun σ3 α3 H3 l3 S3 E3 => q1 σ3 α3 H3 l3 S3 E3.kills
          | ret d s2 => rw [hbd] at q1; exact q1
          | exc c ρ2 s2 => rw [hbd] at q1; exact q1
          | stuck => rw [hbd] at q1; exact q1
      · exact q1.elim
end
end DL

namespace DL
open PySem PySem.Spec PyProof.Rows L2

/-! ### comprehensions -/
theorem wipe_in {σ : L2.St} {j : Nat} : ∀ {vs : List Nat}, j ∈ vs → j < σ.length → (wipe σ vs)[j]? = some none
  | v :: vs, m, h => by
    show ((wipe σ vs).set v none)[j]? = _
    by_cases e : j = v
    · subst e
      rw [List.getElem?_set_self (by rw [wipe_length]; exact h)]
    · rw [List.getElem?_set_ne (Ne.symm e)]
      exact wipe_in ((List.mem_cons.mp m).resolve_left e) h
theorem killE_some : ∀ {vs : List Nat} {ρ : Env} {i : Nat} {d : D}, (killE vs ρ)[i]? = some (some d) → i ∉ vs ∧ ρ[i]? = some (some d)
  | [], _, _, _, h => ⟨by simp, h⟩
  | v :: vs, ρ, i, d, h => by
    obtain ⟨h1, h2⟩ := killE_some (vs := vs) h
    by_cases e : i = v
    · subst e
      by_cases hl : i < ρ.length
      · rw [List.getElem?_set_self hl] at h2; cases h2
      · rw [List.getElem?_eq_none (by simp; omega)] at h2; cases h2
    · rw [List.getElem?_set_ne (Ne.symm e)] at h2
      exact ⟨fun m => (List.mem_cons.mp m).elim e h1, h2⟩
theorem killE_length : ∀ (vs : List Nat) (ρ : Env), (killE vs ρ).length = ρ.length
  | [], _ => rfl
  | v :: vs, ρ => by
    show (killE vs (ρ.set v none)).length = _
    rw [killE_length vs, List.length_set]
theorem EnvR.wiped {K : PySem.W.Frag} {α : List Addr} {H : Hp} {ρ : Env} {σ : L2.St} (h : EnvR K α H ρ σ) (vs : List Nat) : EnvR K α H (killE vs ρ) (wipe σ vs) := by
  refine ⟨by rw [killE_length, wipe_length]; exact h.1, fun i d e => ?_⟩
  obtain ⟨n, e1⟩ := killE_some e
  obtain ⟨v, e2, r⟩ := h.2 i d e1
  exact ⟨v, by rw [wipe_out n]; exact e2, r⟩
theorem wipe_agree {σ σ2 : L2.St} {is vs : List Nat} (h : Agree is (wipe σ vs) σ2) (hs : ∀ i ∈ is, i ∈ vs) : wipe σ2 vs = wipe σ vs := by
  apply List.ext_getElem?
  intro j
  have hl : σ2.length = σ.length := h.1.trans (wipe_length σ vs)
  by_cases hj : j ∈ vs
  · by_cases hlt : j < σ.length
    · rw [wipe_in hj hlt, wipe_in hj (by rw [hl]; exact hlt)]
    · rw [List.getElem?_eq_none (by rw [wipe_length]; omega), List.getElem?_eq_none (by rw [wipe_length]; omega)]
  · rw [wipe_out hj, h.2 j fun m => hj (hs j m)]
/-- nothing is raised within -/
def noX {A : Type} (r : Res A) : Res A := match r with
  | .ok a s => .ok a s
  | _ => .stuck
def yesB : DenB := fun _ st => .ok true st
def guardR {A : Type} (p : Prop) [Decidable p] (r : Res A) : Res A := if p then r else .stuck
theorem guardR_pos {A : Type} {p : Prop} [Decidable p] {r : Res A} (h : p) : guardR p r = r := by unfold guardR; rw [if_pos h]
theorem guardR_neg {A : Type} {p : Prop} [Decidable p] {r : Res A} (h : ¬ p) : guardR p r = .stuck := by unfold guardR; rw [if_neg h]
theorem guardR_post {G : Gm} {W : WX} {A B : Type} {rp : List Addr → Hp → A → B → Prop} {α : List Addr} {H : Hp} {p : Prop} [Decidable p] {r : Res A} {σ : L2.St} {Q : B → Hp → Prop} (h : post G W rp α H (guardR p r) σ Q) : p ∧ post G W rp α H r σ Q := by
  by_cases hp : p
  · rw [guardR_pos hp] at h; exact ⟨hp, h⟩
  · rw [guardR_neg hp] at h; exact h.elim
def tgtR {A : Type} (o : Option Env) (more : Env → Res A) : Res A := match o with
  | some ρ => more ρ
  | none => .stuck
def compGo (it : ItD) (tg : Tgt) (tt : DenB) (elt : Den) (ρw : Env) (s0 : Store) : List D → List D → Store → Res D
  | [], acc, s => guardR (it.still s ∧ s.length = s0.length + 1 ∧ s[s0.length]? = some (.lst acc)) (cutR s0 (.lst acc) s)
  | x :: r, acc, s => guardR (it.still s) (tgtR (tg x ρw) fun ρ' => (noX (tt ρ' s)).bind fun b s1 => if b = true then (noX (elt ρ' s1)).bind fun d s2 =>
        guardR (s2.length = s0.length + 1 ∧ s2[s0.length]? = some (.lst acc) ∧ acc.length < sizeLine) (compGo it tg tt elt ρw s0 r (acc ++ [d]) (s2.set s0.length (.lst (acc ++ [d]))))
        else guardR (s1.length = s0.length + 1) (compGo it tg tt elt ρw s0 r acc s1))
def compE (f : DenI) (tg : Tgt) (tt : DenB) (elt : Den) (own : List Nat) : Den := fun ρ st => (f ρ st).bind fun it s => compGo it tg tt elt (killE own ρ) s it.items [] (s ++ [.lst []])
/-- what a block wishes of exceptions -/
abbrev W0 : WX := fun _ _ _ _ => False
theorem post.noX {G : Gm} {W : WX} {A B : Type} {rp : List Addr → Hp → A → B → Prop} {α : List Addr} {H : Hp} {r : Res A} {σ σ' : L2.St} {Q : B → Hp → Prop} (h : post G W rp α H (noX r) σ Q) : post G W0 rp α H r σ' Q := by
  cases r with
  | ok a s => exact h
  | exc c s => exact h.elim
  | stuck => exact h.elim
structure DTs (G : Gm) (X : Cx) (W : WX) (ifs : List Expr) (f : DenB) : Prop where
  pts : PTs X ifs (rdB G W f)
theorem _root_.L2.PTs.imp {X : Cx} {e : List Expr} {t t' : TT} (h : PTs X e t) (i : ∀ σ H Q, t' σ H Q → t σ H Q) : PTs X e t' := ⟨fun p s σ H Q I q => h.run p s σ H Q I (i σ H Q q)⟩
section
variable {G : Gm} {W : WX} {X : Cx} {k : Nat} {elt tg iter : Expr} {ifs : List Expr} {scope : Scope} {own : List (Str × Nat)} {is : List Nat} {f : DenI} {t : Tgt} {tt : DenB} {te : Den} {pos : Pos}
theorem dts_nil : DTs G X W [] yesB := ⟨pts_nil.imp fun σ H Q ⟨ρ, st, α, E, S, q⟩ => q true α H .refl S rfl⟩
theorem dts_one {c : Expr} {f : DenB} (h : DB G X W c f) : DTs G X W [c] f := ⟨pts_one h.pt⟩
theorem lc_of (C : Cm G X W k) (his : ∀ i ∈ is, i ∈ own.map (·.2)) {σ : L2.St} {H : Hp} {Q : VK} (h : rdE G W (compE f t tt te (own.map (·.2))) σ H Q) :
    tLc (rd G W (rpI G) f) (rdG G t is) (rdB G W0 tt) (rdE G W0 te) (own.map (·.2)) σ H Q := by
  obtain ⟨ρ, st, α, E, S, h⟩ := h
  refine ⟨ρ, st, α, E, S, (post.step (rp := rpI G) h).imp fun J H1 ⟨it, s0, α0, l0, S0, hJ, q⟩ => ?_⟩
  intro Da nD
  have nDa := S0.notIn nD
  have lD : Le α0 H1 (α0 ++ [Da]) (upd H1 Da (.lst [])) := Le.new nD nDa
  have SD : SR G (α0 ++ [Da]) (s0 ++ [.lst []]) (upd H1 Da (.lst [])) := S0.new nD ⟨[], upd_same, rfl⟩
  have atD : (α0 ++ [Da])[s0.length]? = some Da := by rw [← S0.len, List.getElem?_append_right (Nat.le_refl _)]; simp
  refine ⟨fun i m H2 => ∃ rest acc s, it.items.drop i = rest ∧ i ≤ it.items.length ∧ m = rest.length ∧ Le (α0 ++ [Da]) (upd H1 Da (.lst [])) (α0 ++ [Da]) H2 ∧ SR G (α0 ++ [Da]) s H2 ∧ post G W (Rep G.K) α0 H1 (compGo it t tt te (killE (own.map (·.2)) ρ) s0 rest acc s) σ Q,
    ⟨_, it.items, [], _, rfl, Nat.zero_le _, rfl, .refl, SD, q⟩, ?_⟩
  rintro i m H2 ⟨rest, acc, s, e1, hi, rfl, l2, S2, q2⟩
  have l02 : Le α0 H1 (α0 ++ [Da]) H2 := lD.trans l2
  cases rest with
  | nil =>
    unfold compGo at q2
    obtain ⟨⟨still, hlen, hcell⟩, q2⟩ := guardR_post q2
    have hil : i = it.items.length := Nat.le_antisymm hi (by simpa using e1)
    subst hil
    obtain ⟨vs, eD, rD⟩ := S2.cell _ _ _ atD hcell
    refine .inl ⟨(hJ.stop (α0 ++ [Da]) s H2 l02 S2 still), ?_⟩
    unfold cutR at q2
    split at q2
    · rename_i hcut
      have hlo : loL s0.length acc = true := hcut.1
      refine q2 (.ref Da) α0 H2 l02.cut (S0.cut l02 S2 hcut.2) ⟨Da, vs, rfl, ⟨nDa, eD⟩, rD.cut (by rw [S0.len]; exact hlo)⟩
    · exact q2.elim
  | cons x r =>
    unfold compGo at q2
    obtain ⟨still, q2⟩ := guardR_post q2
    have hx : it.items[i]? = some x := by
      have := congrArg List.head? e1
      simpa using this
    have hilt : i < it.items.length := (List.getElem?_eq_some_iff.mp hx).1
    have hr : it.items.drop (i + 1) = r := by
      have := congrArg List.tail e1
      simpa using this
    obtain ⟨jgo, jy⟩ := hJ.go i x (α0 ++ [Da]) s H2 l02 S2 still hx
    refine .inr ⟨jgo, fun H3 => ∃ acc s, Le (α0 ++ [Da]) (upd H1 Da (.lst [])) (α0 ++ [Da]) H3 ∧ SR G (α0 ++ [Da]) s H3 ∧ post G W (Rep G.K) α0 H1 (compGo it t tt te (killE (own.map (·.2)) ρ) s0 r acc s) σ Q,
      fun H3 ⟨acc3, s3, l3, S3, q3⟩ => ⟨r.length, by simp, r, acc3, s3, hr, hilt, rfl, l3, S3, q3⟩, fun v H3 y => ?_⟩
    obtain ⟨l3, S3, R3⟩ := jy v H3 y
    have l03 := l02.trans l3
    cases ht : t x (killE (own.map (·.2)) ρ) with
    | none => rw [ht] at q2; exact q2.elim
    | some ρ' =>
      rw [ht] at q2
      refine ⟨x, _, α0 ++ [Da], ((E.mono l0).mono l03).wiped _, R3, ρ', ht, fun σ2 E2 ag => ⟨wipe_agree ag his, ?_⟩⟩
      replace q2 : post G W (Rep G.K) α0 H1 ((noX (tt ρ' s)).bind fun b s1 => if b = true then (noX (te ρ' s1)).bind fun d s2 =>
        guardR (s2.length = s0.length + 1 ∧ s2[s0.length]? = some (.lst acc) ∧ acc.length < sizeLine) (compGo it t tt te (killE (own.map (·.2)) ρ) s0 r (acc ++ [d]) (s2.set s0.length (.lst (acc ++ [d]))))
        else guardR (s1.length = s0.length + 1) (compGo it t tt te (killE (own.map (·.2)) ρ) s0 r acc s1)) σ Q := q2
      refine ⟨ρ', s, α0 ++ [Da], E2, S3, ?_⟩
      have key : ∀ {α4 : List Addr} {s4 : Store} {H4 : Hp}, Le (α0 ++ [Da]) H3 α4 H4 → SR G α4 s4 H4 → s4.length = s0.length + 1 → α4 = α0 ++ [Da] := fun {α4 s4 H4} l4 S4 h4 => by
        obtain ⟨γ, e, _⟩ := l4.pre
        have := S4.len
        rw [e, List.length_append, List.length_append, S0.len, h4] at this
        have hg : γ = [] := List.length_eq_zero_iff.mp (by rw [List.length_singleton] at this; omega)
        rw [e, hg, List.append_nil]
      cases htt : tt ρ' s with
      | stuck => rw [htt] at q2; exact q2.elim
      | exc c s1 => rw [htt] at q2; exact q2.elim
      | ok b s1 =>
        rw [htt] at q2
        intro b' α4 H4 l4 S4 hb
        cases (show b' = b from hb)
        cases b with
        | false =>
          rw [if_neg Bool.false_ne_true]
          obtain ⟨hl, q4⟩ := guardR_post (show post G W (Rep G.K) α0 H1 (guardR (s1.length = s0.length + 1) (compGo it t tt te (killE (own.map (·.2)) ρ) s0 r acc s1)) σ Q from q2)
          cases key l4 S4 hl
          exact ⟨acc, s1, (l2.trans l3).trans l4, S4, q4⟩
        | true =>
          rw [if_pos rfl]
          have q4 : post G W (Rep G.K) α0 H1 ((noX (te ρ' s1)).bind fun d s2 =>
            guardR (s2.length = s0.length + 1 ∧ s2[s0.length]? = some (.lst acc) ∧ acc.length < sizeLine) (compGo it t tt te (killE (own.map (·.2)) ρ) s0 r (acc ++ [d]) (s2.set s0.length (.lst (acc ++ [d]))))) σ Q := q2
          refine ⟨ρ', s1, α4, E2.mono l4, S4, ?_⟩
          cases hte : te ρ' s1 with
          | stuck => rw [hte] at q4; exact q4.elim
          | exc c s5 => rw [hte] at q4; exact q4.elim
          | ok d s5 =>
            rw [hte] at q4
            intro w α5 H5 l5 S5 R5
            obtain ⟨⟨h1, h2, h3⟩, q5⟩ := guardR_post (show post G W (Rep G.K) α0 H1 (guardR (s5.length = s0.length + 1 ∧ s5[s0.length]? = some (.lst acc) ∧ acc.length < sizeLine) (compGo it t tt te (killE (own.map (·.2)) ρ) s0 r (acc ++ [d]) (s5.set s0.length (.lst (acc ++ [d]))))) σ Q from q4)
            cases key (l4.trans l5) S5 h1
            obtain ⟨vs, eD, rD⟩ := S5.cell _ _ _ atD h2
            have lw : Le (α0 ++ [Da]) H5 (α0 ++ [Da]) (upd H5 Da (.lst (vs ++ [w]))) := Le.write (by simp)
            exact ⟨vs, eD, by rw [← rD.len]; exact h3, acc ++ [d], _, ((l2.trans l3).trans (l4.trans l5)).trans lw, S5.write (c := .lst (acc ++ [d])) atD ⟨_, upd_same, (rD.mono lw).append (.cons (R5.mono lw) .nil)⟩, q5⟩
/-! an expression, then a statement's end -/
/-- behind an expression in a statement -/
def thenO {A : Type} (r : Res A) (ρ : Env) (k : A → Store → Out) : Out := match r with
  | .ok a s => k a s
  | .exc c s => .exc c ρ s
  | .stuck => .stuck
def asgS (i : Nat) (f : Den) : DenS := fun ρ st => thenO (f ρ st) ρ fun d s => .next (ρ.set i (some d)) s
theorem postS.step {A B : Type} {α : List Addr} {H : Hp} {rp : List Addr → Hp → A → B → Prop} {r : Res A} {ρ : Env} {kk : A → Store → Out} {D : Ends} {σ : L2.St} (E : EnvR G.K α H ρ σ) (h : postS G W α H (thenO r ρ kk) D) :
    post G W rp α H r σ fun b H1 => ∃ a s1 α1, Le α H α1 H1 ∧ SR G α1 s1 H1 ∧ rp α1 H1 a b ∧ postS G W α1 H1 (kk a s1) D := by
  cases r with
  | ok a st => exact fun b α1 H1 l S R => ⟨a, st, α1, l, S, R, postS.mono l h⟩
  | exc c st => exact fun α1 H1 l S => h σ α1 H1 l S (E.mono l)
  | stuck => exact h
theorem asg_of {i : Nat} {f : Den} {D : Ends} {σ : L2.St} {H : Hp} (h : rdS G W (asgS i f) D σ H) : rdE G W f σ H fun x H1 => gName i x σ H1 D.nx := by
  obtain ⟨ρ, st, α, E, S, q⟩ := h
  refine ⟨ρ, st, α, E, S, (postS.step (rp := Rep G.K) E q).imp fun x H1 ⟨d, s1, α1, l, S1, R, q⟩ => ?_⟩
  exact q _ α1 H1 .refl S1 ((E.mono l).set R i)
theorem de_lc (own : List (Str × Nat)) (C : Cm G X W k) (hN : X.N.Nodup) (hi : DI G X W tg iter f) (ok : BlkOk X.N X.env.scope scope own) (his : ∀ i ∈ is, i ∈ own.map (·.2))
    (hg : ∀ (s : Shared) (H : Hp) (C : Addr) (cl : List (Str × Addr)) (fp : List Addr), Cm G (X.blk s H scope (compEnvC scope cl C X.env) fp) W0 k → DG G (X.blk s H scope (compEnvC scope cl C X.env) fp) tg t is) (ht : ∀ (s : Shared) (H : Hp) (C : Addr) (cl : List (Str × Addr)) (fp : List Addr), Cm G (X.blk s H scope (compEnvC scope cl C X.env) fp) W0 k → DTs G (X.blk s H scope (compEnvC scope cl C X.env) fp) W0 ifs tt)
    (he : ∀ (s : Shared) (H : Hp) (C : Addr) (cl : List (Str × Addr)) (fp : List Addr), Cm G (X.blk s H scope (compEnvC scope cl C X.env) fp) W0 k → DE G (X.blk s H scope (compEnvC scope cl C X.env) fp) W0 elt te) (hs : ∀ x, foldedSetIterable iter X.env x = pure x := by intro _; rfl) :
    DE G X W (.ListComp elt [⟨tg, iter, ifs, 0⟩] scope pos) (compE f t tt te (own.map (·.2))) :=
  ⟨(pe_lc C.calm hN hi.pi ok (fun s H Ca cl fp => (hg s H Ca cl fp ⟨C.K, C.calm, C.pr, C.wd, C.room, takes0⟩).pg) (fun s H Ca cl fp => (ht s H Ca cl fp ⟨C.K, C.calm, C.pr, C.wd, C.room, takes0⟩).pts) (fun s H Ca cl fp => (he s H Ca cl fp ⟨C.K, C.calm, C.pr, C.wd, C.room, takes0⟩).pe) hs).imp fun _ _ _ => lc_of C his⟩
theorem ds_setLc (i : Nat) {y : Str} {py spos : Pos} (own : List (Str × Nat)) (C : Cm G X W k) (hN : X.N.Nodup) (hi : DI G X W tg iter f) (ok : BlkOk X.N X.env.scope scope own) (his : ∀ i ∈ is, i ∈ own.map (·.2))
    (hg : ∀ (s : Shared) (H : Hp) (C : Addr) (cl : List (Str × Addr)) (fp : List Addr), Cm G (X.blk s H scope (compEnvC scope cl C X.env) fp) W0 k → DG G (X.blk s H scope (compEnvC scope cl C X.env) fp) tg t is) (ht : ∀ (s : Shared) (H : Hp) (C : Addr) (cl : List (Str × Addr)) (fp : List Addr), Cm G (X.blk s H scope (compEnvC scope cl C X.env) fp) W0 k → DTs G (X.blk s H scope (compEnvC scope cl C X.env) fp) W0 ifs tt)
    (he : ∀ (s : Shared) (H : Hp) (C : Addr) (cl : List (Str × Addr)) (fp : List Addr), Cm G (X.blk s H scope (compEnvC scope cl C X.env) fp) W0 k → DE G (X.blk s H scope (compEnvC scope cl C X.env) fp) W0 elt te) (hs : ∀ x, foldedSetIterable iter X.env x = pure x := by intro _; rfl)
    (hy : X.N[i]? = some y := by rfl) (hyl : X.env.scope.names.lookup y = some .local := by rfl) (hsw : swapsWith (.ListComp elt [⟨tg, iter, ifs, 0⟩] scope pos) (some (.Name y py)) spos.line X.env = pure true := by exact sw_true rfl rfl rfl (by decide +kernel)) :
    DS G X W (.Assign [.Name y py] (.ListComp elt [⟨tg, iter, ifs, 0⟩] scope pos) spos) (asgS i (compE f t tt te (own.map (·.2)))) := by
  refine ⟨(ps_setLc C.calm hN hy hyl hsw hi.pi ok (fun s H Ca cl fp => (hg s H Ca cl fp ⟨C.K, C.calm, C.pr, C.wd, C.room, takes0⟩).pg) (fun s H Ca cl fp => (ht s H Ca cl fp ⟨C.K, C.calm, C.pr, C.wd, C.room, takes0⟩).pts) (fun s H Ca cl fp => (he s H Ca cl fp ⟨C.K, C.calm, C.pr, C.wd, C.room, takes0⟩).pe) hs).imp ?_⟩
  intro D σ H hq
  exact lc_of C his (asg_of hq)
end
end DL

namespace DL
open PySem PySem.Spec PyProof.Rows L2

/-! ### statements -/
def seqO (o : Out) (k : Env → Store → Out) : Out := match o with
  | .next ρ s => k ρ s
  | o => o
def seqS (a b : DenS) : DenS := fun ρ st => seqO (a ρ st) b
def skipS : DenS := fun ρ st => .next ρ st
def tgtS (t : Tgt) (f : Den) : DenS := fun ρ st => thenO (f ρ st) ρ fun d s => tgtO (t d ρ) fun ρ' => .next ρ' s
def parO2 (i j : Nat) (ρ : Env) (s : Store) (ds : List D) : Out := match ds with
  | [d, e] => .next ((ρ.set i (some d)).set j (some e)) s
  | _ => .stuck
def parO3 (i j l : Nat) (ρ : Env) (s : Store) (ds : List D) : Out := match ds with
  | [d, e, g] => .next (((ρ.set i (some d)).set j (some e)).set l (some g)) s
  | _ => .stuck
def parS2 (i j : Nat) (f : DenL) : DenS := fun ρ st => thenO (f ρ st) ρ fun ds s => parO2 i j ρ s ds
def parS3 (i j l : Nat) (f : DenL) : DenS := fun ρ st => thenO (f ρ st) ρ fun ds s => parO3 i j l ρ s ds
def exprS (f : Den) : DenS := fun ρ st => thenO (f ρ st) ρ fun _ s => .next ρ s
def retS (f : Den) : DenS := fun ρ st => thenO (f ρ st) ρ fun d s => .ret d s
def retN : DenS := fun _ st => .ret .non st
def ifS (c : DenB) (a b : DenS) : DenS := fun ρ st => thenO (c ρ st) ρ fun d s => if d = true then a ρ s else b ρ s
def brkS : DenS := fun ρ st => .brk ρ st
def contS : DenS := fun ρ st => .cont ρ st
/-- names that are no longer wanted -/
def killS (ks : List Nat) (a : DenS) : DenS := fun ρ st => seqO (a ρ st) fun ρ s => .next (killE ks ρ) s
def whileGo (c : DenB) (b : DenS) (ks : List Nat) : Nat → Env → Store → Out
  | 0, _, _ => .stuck
  | n + 1, ρ, st => thenO (c ρ st) ρ fun d s => if d = true then turnO ks (b ρ s) fun ρ s => whileGo c b ks n ρ s else .next ρ s
abbrev fuelW : Nat := 1000000
def whileS (c : DenB) (b : DenS) (ks : List Nat) : DenS := whileGo c b ks fuelW
section
variable {G : Gm} {W : WX} {X : Cx} {k : Nat} {s : Stmt} {ss : List Stmt} {a b : DenS} {e : Expr} {f : Den} {pos : Pos}
theorem dss_nil : DSs G X W [] skipS := ⟨pss_nil.imp fun D σ H ⟨ρ, st, α, E, S, q⟩ => q σ α H .refl S E⟩
theorem dss_one (h : DS G X W s a) : DSs G X W [s] a := ⟨pss_one h.ps⟩
theorem dss_cons (h : DS G X W s a) (t : DSs G X W ss b) : DSs G X W (s :: ss) (seqS a b) := by
  refine ⟨(pss_cons h.ps t.ps).imp ?_⟩
  intro D σ H hq
  obtain ⟨ρ, st, α, E, S, q⟩ := hq
  refine ⟨ρ, st, α, E, S, ?_⟩
  have q : postS G W α H (seqO (a ρ st) b) D := q
  cases ha : a ρ st with
  | next ρ' s' => rw [ha] at q; exact fun σ' α' H' l S' E' => ⟨ρ', s', α', E', S', postS.mono l q⟩
  | ret d s' => rw [ha] at q; exact q
  | brk ρ' s' => rw [ha] at q; exact q
  | cont ρ' s' => rw [ha] at q; exact q
  | exc c ρ' s' => rw [ha] at q; exact q
  | stuck => rw [ha] at q; exact q
theorem ds_set (i : Nat) {x : Str} {pos' : Pos} (hN : X.N.Nodup) (he : DE G X W e f) (hi : X.N[i]? = some x := by rfl) (hx : Loc X.env.scope x := by first | exact Or.inl rfl | exact Or.inr rfl) (hs : swapsWith e (some (.Name x pos')) pos.line X.env = pure false := by rfl)
    (hf : X.fn x = true ∨ X.env.scope.names.lookup x = some .local := by first | exact .inl rfl | exact .inr rfl) : DS G X W (.Assign [.Name x pos'] e pos) (asgS i f) :=
  ⟨(ps_set (i := i) hN hi hx he.pe hs hf).imp fun _ _ _ => asg_of⟩
theorem ds_asg {tg : Expr} {t : Tgt} {is : List Nat} (he : DE G X W e f) (hg : DG G X tg t is) (hs : swapsWithSole [tg] e pos.line X.env = pure false := by rfl) (hw : swappedStores [tg] e X.env = pure none := by rfl)
    (h1 : (assignEach [tg] X.env).map (·.2) = [assign tg X.env] := by rfl) : DS G X W (.Assign [tg] e pos) (tgtS t f) := by
  refine ⟨(ps_asg he.pe hg.pg hs hw h1).imp ?_⟩
  intro D σ H hq
  obtain ⟨ρ, st, α, E, S, q⟩ := hq
  refine ⟨ρ, st, α, E, S, (postS.step (rp := Rep G.K) E q).imp fun x H1 ⟨d, s1, α1, l, S1, R, q⟩ => ?_⟩
  cases ht : t d ρ with
  | none => rw [ht] at q; exact q.elim
  | some ρ' =>
    rw [ht] at q
    exact ⟨d, ρ, α1, E.mono l, R, ρ', ht, fun σ' E' _ => q σ' α1 H1 .refl S1 E'⟩
theorem ds_par (i j : Nat) {x y : Str} {e1 e2 : Expr} {f : DenL} {px py pt : Pos} {kt k2 pt2} (C : Cm G X W k) (hN : X.N.Nodup) (ha : DA G X W [e1, e2] f) (hi : X.N[i]? = some x := by rfl) (hj : X.N[j]? = some y := by rfl) (hij : i ≠ j := by decide)
    (hx : X.env.scope.names.lookup x = some .local := by rfl) (hy : X.env.scope.names.lookup y = some .local := by rfl)
    (hw : swappedStores [.Tuple [.Name x px, .Name y py] kt pt] (.Tuple [e1, e2] k2 pt2) X.env = pure (some [x, y]) := by rfl)
    (hs : swapsWithSole [.Tuple [.Name x px, .Name y py] kt pt] (.Tuple [e1, e2] k2 pt2) pos.line X.env = pure false := by rfl) :
    DS G X W (.Assign [.Tuple [.Name x px, .Name y py] kt pt] (.Tuple [e1, e2] k2 pt2) pos) (parS2 i j f) := by
  refine ⟨(ps_par C.calm hN hi hj hij hx hy ha.pa hw hs).imp ?_⟩
  intro D σ H hq
  obtain ⟨ρ, st, α, E, S, q⟩ := hq
  refine ⟨ρ, st, α, E, S, (postS.step (rp := RepL G.K) E q).imp fun vs H1 ⟨ds, s1, α1, l, S1, R, q⟩ => ?_⟩
  unfold parO2 at q
  split at q
  · rename_i d e
    obtain ⟨v, r1, rfl, R1, R2⟩ := (show ∃ v r, vs = v :: r ∧ Rep G.K α1 H1 d v ∧ RepL G.K α1 H1 [e] r from R)
    obtain ⟨w, r2, rfl, R3, R4⟩ := (show ∃ v r, r1 = v :: r ∧ Rep G.K α1 H1 e v ∧ RepL G.K α1 H1 [] r from R2)
    cases (show r2 = [] from R4)
    exact ⟨v, w, rfl, q _ α1 H1 .refl S1 (((E.mono l).set R1 i).set R3 j)⟩
  · exact q.elim
theorem ds_par3 (i j l : Nat) {x y z : Str} {e1 e2 e3 : Expr} {f : DenL} {px py pz pt : Pos} {kt k2 pt2} (C : Cm G X W k) (hN : X.N.Nodup) (ha : DA G X W [e1, e2, e3] f) (hi : X.N[i]? = some x := by rfl) (hj : X.N[j]? = some y := by rfl) (hl : X.N[l]? = some z := by rfl) (hij : i ≠ j := by decide) (hil : i ≠ l := by decide) (hjl : j ≠ l := by decide)
    (hx : X.env.scope.names.lookup x = some .local := by rfl) (hy : X.env.scope.names.lookup y = some .local := by rfl) (hz : X.env.scope.names.lookup z = some .local := by rfl)
    (hw : swappedStores [.Tuple [.Name x px, .Name y py, .Name z pz] kt pt] (.Tuple [e1, e2, e3] k2 pt2) X.env = pure (some [x, y, z]) := by rfl)
    (hs : swapsWithSole [.Tuple [.Name x px, .Name y py, .Name z pz] kt pt] (.Tuple [e1, e2, e3] k2 pt2) pos.line X.env = pure false := by rfl) :
    DS G X W (.Assign [.Tuple [.Name x px, .Name y py, .Name z pz] kt pt] (.Tuple [e1, e2, e3] k2 pt2) pos) (parS3 i j l f) := by
  refine ⟨(ps_par3 C.calm hN hi hj hl hij hil hjl hx hy hz ha.pa hw hs).imp ?_⟩
  intro D σ H hq
  obtain ⟨ρ, st, α, E, S, q⟩ := hq
  refine ⟨ρ, st, α, E, S, (postS.step (rp := RepL G.K) E q).imp fun vs H1 ⟨ds, s1, α1, l1, S1, R, q⟩ => ?_⟩
  unfold parO3 at q
  split at q
  · rename_i d e g
    obtain ⟨v, r1, rfl, R1, R2⟩ := (show ∃ v r, vs = v :: r ∧ Rep G.K α1 H1 d v ∧ RepL G.K α1 H1 [e, g] r from R)
    obtain ⟨w, r2, rfl, R3, R4⟩ := (show ∃ v r, r1 = v :: r ∧ Rep G.K α1 H1 e v ∧ RepL G.K α1 H1 [g] r from R2)
    obtain ⟨u, r3, rfl, R5, R6⟩ := (show ∃ v r, r2 = v :: r ∧ Rep G.K α1 H1 g v ∧ RepL G.K α1 H1 [] r from R4)
    cases (show r3 = [] from R6)
    exact ⟨v, w, u, rfl, q _ α1 H1 .refl S1 ((((E.mono l1).set R1 i).set R3 j).set R5 l)⟩
  · exact q.elim
theorem ds_expr (he : DE G X W e f) (hs : swapsWith e none pos.line X.env = pure false := by rfl) : DS G X W (.Expr e pos) (exprS f) := by
  refine ⟨(ps_expr he.pe hs).imp ?_⟩
  intro D σ H hq
  obtain ⟨ρ, st, α, E, S, q⟩ := hq
  exact ⟨ρ, st, α, E, S, (postS.step (rp := Rep G.K) E q).imp fun x H1 ⟨d, s1, α1, l, S1, R, q⟩ => q σ α1 H1 .refl S1 (E.mono l)⟩
theorem ds_doc {x j pos pos'} : DS G X W (.Expr (.Constant (.str x) j pos) pos') skipS := ⟨ps_doc.imp fun D σ H ⟨ρ, st, α, E, S, q⟩ => q σ α H .refl S E⟩
theorem ds_ret (he : DE G X W e f) : DS G X W (.Return (some e) pos) (retS f) := by
  refine ⟨(ps_ret he.pe).imp ?_⟩
  intro D σ H hq
  obtain ⟨ρ, st, α, E, S, q⟩ := hq
  exact ⟨ρ, st, α, E, S, (postS.step (rp := Rep G.K) E q).imp fun x H1 ⟨d, s1, α1, l, S1, R, q⟩ => q x α1 H1 .refl S1 R⟩
theorem ds_retN : DS G X W (.Return none pos) retN := ⟨ps_retN.imp fun D σ H ⟨ρ, st, α, E, S, q⟩ => q .non α H .refl S rfl⟩
theorem ds_if {c : Expr} {ca cb : List Stmt} {tc : DenB} (hc : DB G X W c tc) (ha : DSs G X W ca a) (hb : DSs G X W cb b) : DS G X W (.If c ca cb pos) (ifS tc a b) := by
  refine ⟨(ps_if hc.pt ha.ps hb.ps).imp ?_⟩
  intro D σ H hq
  obtain ⟨ρ, st, α, E, S, q⟩ := hq
  refine ⟨ρ, st, α, E, S, (postS.step (rp := rpB) E q).imp fun x H1 ⟨d, s1, α1, l, S1, R, q⟩ => ?_⟩
  cases (show x = d from R)
  cases x with
  | true => exact ⟨ρ, s1, α1, E.mono l, S1, q⟩
  | false => exact ⟨ρ, s1, α1, E.mono l, S1, q⟩
theorem ds_brk : DS G X W (.Break pos) brkS := ⟨ps_break.imp fun D σ H ⟨ρ, st, α, E, S, q⟩ => q σ α H .refl S E⟩
theorem ds_cont : DS G X W (.Continue pos) contS := ⟨ps_continue.imp fun D σ H ⟨ρ, st, α, E, S, q⟩ => q σ α H .refl S E⟩
theorem ds_kill (ks : List Nat) (h : DS G X W s a) : DS G X W s (killS ks a) := by
  refine ⟨h.ps.imp ?_⟩
  intro D σ H hq
  obtain ⟨ρ, st, α, E, S, q⟩ := hq
  refine ⟨ρ, st, α, E, S, ?_⟩
  have q : postS G W α H (seqO (a ρ st) _) D := q
  cases ha : a ρ st with
  | next ρ' s' => rw [ha] at q; exact fun σ' α' H' l S' E' => q σ' α' H' l S' E'.kills
  | ret d s' => rw [ha] at q; exact q
  | brk ρ' s' => rw [ha] at q; exact q
  | cont ρ' s' => rw [ha] at q; exact q
  | exc c ρ' s' => rw [ha] at q; exact q
  | stuck => rw [ha] at q; exact q
theorem ds_while (ks : List Nat) {c : Expr} {body : List Stmt} {tc : DenB} (hp : PassesOwn (model X.prog X.w) X.A X.env X.xe) (hc : DB G X W c tc) (hb : DSs G X W body b) : DS G X W (.While c body [] pos) (whileS tc b ks) := by
  refine ⟨(ps_while hp hc.pt hb.ps).imp ?_⟩
  intro D σ H hq
  obtain ⟨ρ, st, α, E, S, q⟩ := hq
  unfold whileS at q
  refine ⟨fun m σ1 H1 => ∃ ρ1 st1 α1, EnvR G.K α1 H1 ρ1 σ1 ∧ SR G α1 st1 H1 ∧ postS G W α1 H1 (whileGo tc b ks m ρ1 st1) D, ⟨fuelW, ρ, st, α, E, S, q⟩, ?_⟩
  rintro m σ1 H1 ⟨ρ1, st1, α1, E1, S1, q1⟩
  cases m with
  | zero => exact q1.elim
  | succ m =>
    refine ⟨ρ1, st1, α1, E1, S1, (postS.step (rp := rpB) E1 q1).imp fun x H2 ⟨d, s2, α2, l2, S2, R2, q2⟩ => ?_⟩
    cases (show x = d from R2)
    cases x with
    | false => exact q2 σ1 α2 H2 .refl S2 (E1.mono l2)
    | true =>
      rw [if_pos rfl]
      refine ⟨fun σ3 H3 => ∃ ρ3 st3 α3, EnvR G.K α3 H3 ρ3 σ3 ∧ SR G α3 st3 H3 ∧ postS G W α3 H3 (whileGo tc b ks m ρ3 st3) D, fun σ3 H3 h3 => ⟨m, Nat.lt_succ_self m, h3⟩, ?_⟩
      refine ⟨ρ1, s2, α2, E1.mono l2, S2, ?_⟩
      replace q2 : postS G W α2 H2 (turnO ks (b ρ1 s2) fun ρ s => whileGo tc b ks m ρ s) D := q2
      cases hbd : b ρ1 s2 with
      | next ρ2 s2 =>
        rw [hbd] at q2
        exact fun σ3 α3 H3 l3 S3 E3 => ⟨_, s2, α3, E3.kills, S3, postS.mono l3 q2⟩
      | cont ρ2 s2 =>
        rw [hbd] at q2
        exact fun σ3 α3 H3 l3 S3 E3 => ⟨_, s2, α3, E3.kills, S3, postS.mono l3 q2⟩
      | brk ρ2 s2 =>
        rw [hbd] at q2
        exact fun σ3 α3 H3 l3 S3 E3 => q2 σ3 α3 H3 l3 S3 E3.kills
      | ret d s2 => rw [hbd] at q2; exact q2
      | exc c ρ2 s2 => rw [hbd] at q2; exact q2
      | stuck => rw [hbd] at q2; exact q2
end
end DL

namespace DL
open PySem PySem.Spec PyProof.Rows L2

/-! ### lists that change -/
/-- a changing list's method with one argument: at the receiver it is a list; then o tells what comes and what the list becomes -/
abbrev MD := List D → List D → Option (D × List D)
def cellL (st : Store) (d : D) : Option (Nat × List D) := match d with
  | .ref n => match st[n]? with
    | some (.lst xs) => some (n, xs)
    | _ => none
  | _ => none
def mdR (o : MD) (x : D) (ds : List D) (s : Store) : Res D := match cellL s x with
  | some (n, xs) => (match o xs ds with
    | some (r, ys) => .ok r (s.set n (.lst ys))
    | none => .stuck)
  | none => .stuck
def mdE (o : MD) (f : Den) (g : DenL) : Den := fun ρ st => (f ρ st).bind fun x s => guardR ((cellL s x).isSome = true) ((g ρ s).bind fun ds s2 => mdR o x ds s2)
theorem cellL_ok {G : Gm} {α : List Addr} {H : Hp} {st : Store} (S : SR G α st H) {d : D} {v : V} {n : Nat} {xs : List D} (r : Rep G.K α H d v) (e : cellL st d = some (n, xs)) : ∃ a vs, v = .ref a ∧ α[n]? = some a ∧ H a = some (.lst vs) ∧ RepL G.K α H xs vs := by
  unfold cellL at e
  split at e
  · rename_i m
    obtain ⟨a, e1, q⟩ := (show ∃ a, _ ∧ α[m]? = some a from r)
    split at e
    · rename_i ys hs
      cases e
      obtain ⟨vs, e2, r⟩ := S.cell _ a _ q hs
      exact ⟨a, vs, e1, q, e2, r⟩
    · cases e
  · cases e
/-- a rule of the model for such a method -/
def MdOk (G : Gm) (X : Cx) (id : String) (o : MD) : Prop := MtM X id fun x vs H Q => ∃ (l : Addr) (xs ds : List D) (us : List V) (r : D) (ys : List D) (α : List Addr) (st : Store), SR G α st H ∧ x = .ref l ∧ H l = some (.lst us) ∧ RepL G.K α H xs us ∧ RepL G.K α H ds vs ∧ o xs ds = some (r, ys) ∧
  ∀ w ws, Rep G.K α H r w → RepL G.K α H ys ws → Q w (upd H l (.lst ws))
theorem _root_.L2.MtM.imp {X : Cx} {id : String} {r r' : V → List V → Hp → VK → Prop} (h : MtM X id r) (i : ∀ x vs H Q, r' x vs H Q → r x vs H Q) : MtM X id r' := fun p s σ H x xs v us Q I rx rs q => h p s σ H x xs v us Q I rx rs (i x xs H Q q)
def appO : MD := fun xs ds => match ds with
  | [d] => if xs.length < sizeLine then some (.non, xs ++ [d]) else none
  | _ => none
def popAtO : MD := fun xs ds => match ds with
  | [.int i] => if -(2 ^ 63) ≤ i ∧ i < 2 ^ 63 then (match seqIndex? i xs.length with
    | some k => (xs[k]?).map fun d => (d, xs.eraseIdx k)
    | none => none) else none
  | _ => none
def popO : MD := fun xs ds => match ds with
  | [] => (xs[xs.length - 1]?).map fun d => (d, xs.dropLast)
  | _ => none
section
variable {G : Gm} {W : WX} {X : Cx} {k : Nat} {o e : Expr} {es : List Expr} {f : Den} {g : DenL} {name : Str} {apos cpos : Pos} {id : String} {m : MD}
theorem RepL.one {K : PySem.W.Frag} {α : List Addr} {H : Hp} {d : D} {vs : List V} (r : RepL K α H [d] vs) : ∃ v, vs = [v] ∧ Rep K α H d v := by
  obtain ⟨v, r', rfl, h1, h2⟩ := (show ∃ v r, vs = v :: r ∧ Rep K α H d v ∧ RepL K α H [] r from r)
  cases (show r' = [] from h2)
  exact ⟨v, rfl, h1⟩
theorem RepL.dropLast {K : PySem.W.Frag} {α : List Addr} {H : Hp} {xs : List D} {vs : List V} (r : RepL K α H xs vs) : RepL K α H xs.dropLast vs.dropLast := by
  rw [List.dropLast_eq_take, List.dropLast_eq_take, r.len]
  exact r.take _
theorem md_app : MdOk G X "list.append" appO := mt_append.imp fun x vs H Q ⟨l, xs, ds, us, r, ys, α, st, S, e1, e2, r1, r2, e3, q⟩ => by
  unfold appO at e3
  split at e3
  · rename_i d
    split at e3
    · rename_i hl
      cases e3
      obtain ⟨w, rfl, rw'⟩ := r2.one
      exact ⟨l, us, w, e1, rfl, e2, by rw [← r1.len]; exact hl, q .non _ rfl (r1.append (.cons rw' .nil))⟩
    · cases e3
  · cases e3
theorem md_popAt : MdOk G X "list.pop" popAtO := mt_popAt.imp fun x vs H Q ⟨l, xs, ds, us, r, ys, α, st, S, e1, e2, r1, r2, e3, q⟩ => by
  unfold popAtO at e3
  split at e3
  · rename_i i
    split at e3
    · rename_i hi
      obtain ⟨w, rfl, rw'⟩ := r2.one
      cases (show w = V.int i from rw')
      split at e3
      · rename_i kk hk
        cases hx : xs[kk]? with
        | none => rw [hx] at e3; cases e3
        | some d =>
          rw [hx] at e3
          cases e3
          obtain ⟨y, ey, ry⟩ := r1.get hx
          exact ⟨l, us, i, kk, y, e1, rfl, e2, hi.1, hi.2, by rw [← r1.len]; exact hk, ey, q _ _ ry (r1.erase kk)⟩
      · cases e3
    · cases e3
  · cases e3
theorem md_pop : MdOk G X "list.pop" popO := mt_pop.imp fun x vs H Q ⟨l, xs, ds, us, r, ys, α, st, S, e1, e2, r1, r2, e3, q⟩ => by
  unfold popO at e3
  split at e3
  · cases (show vs = [] from r2)
    cases hx : xs[xs.length - 1]? with
    | none => rw [hx] at e3; cases e3
    | some d =>
      rw [hx] at e3
      cases e3
      obtain ⟨y, ey, ry⟩ := r1.get hx
      exact ⟨l, us, y, e1, rfl, e2, by rw [← r1.len]; exact ey, q _ _ ry r1.dropLast⟩
  · cases e3
/-- behind the receiver and the arguments -/
theorem md_fin {σ : L2.St} {α α2 : List Addr} {H H2 : Hp} {s2 : Store} {x : V} {d : D} {ds : List D} {vs : List V} {Q : VK} (S2 : SR G α2 s2 H2) (R : Rep G.K α2 H2 d x) (R2 : RepL G.K α2 H2 ds vs) (q : post G W (Rep G.K) α2 H2 (mdR m d ds s2) σ Q) :
    ∃ (l : Addr) (xs ds : List D) (us : List V) (r : D) (ys : List D) (α : List Addr) (st : Store), SR G α st H2 ∧ x = .ref l ∧ H2 l = some (.lst us) ∧ RepL G.K α H2 xs us ∧ RepL G.K α H2 ds vs ∧ m xs ds = some (r, ys) ∧
      ∀ w ws, Rep G.K α H2 r w → RepL G.K α H2 ys ws → Q w (upd H2 l (.lst ws)) := by
  unfold mdR at q
  split at q
  · rename_i n xs hc
    split at q
    · rename_i r ys ho
      obtain ⟨a, us, rfl, ha, hH, ru⟩ := cellL_ok S2 R hc
      refine ⟨a, xs, ds, us, r, ys, α2, s2, S2, rfl, hH, ru, R2, ho, fun w ws rw' rws => ?_⟩
      have lw : Le α2 H2 α2 (upd H2 a (.lst ws)) := Le.write (List.mem_of_getElem? ha)
      exact q w α2 _ lw (S2.write (c := .lst ys) ha ⟨ws, upd_same, rws.mono lw⟩) (rw'.mono lw)
    · exact q.elim
  · exact q.elim
theorem de_md (C : Cm G X W k) (slot : Slot "list" name id) (hty : typeOf (.builtin id) = pure (.type "method_descriptor")) (hm : MdOk G X id m) (ho : DE G X W o f) (ha : DA G X W (e :: es) g)
    (hbase : attributeBase o name X.env (eval o X.env) = eval o X.env := by rfl)
    (hfew : ((backTo cpos (starEach (e :: es) X.env)).all (fun x => !x.1) && (backToKw cpos (keywordEach [] X.env)).all (fun x => x.1.isSome)
      && decide ((e :: es).length + ([] : List Keyword).length + (if ([] : List Keyword).isEmpty then 0 else 1) < 30)) = true := by rfl)
    (hline : (apos.endLine == cpos.line) = true := by rfl) (hs : starEach (e :: es) X.env = (false, eval e X.env) :: starEach es X.env := by rfl) (hplain : (backTo cpos (starEach es X.env)).any (·.1) = false := by rfl) :
    DE G X W (.Call (.Attribute o name apos) (e :: es) [] cpos) (mdE m f g) := by
  refine ⟨(pe_bm PySem.F.plainAttrs_list slot hty hm ho.pe ha.pa hbase hfew hline hs hplain).imp ?_⟩
  intro σ H Q hq
  obtain ⟨ρ, st, α, E, S, q⟩ := hq
  refine ⟨ρ, st, α, E, S, (post.step (rp := Rep G.K) q).imp fun x H1 ⟨d, s1, α1, l, S1, R, q⟩ => ?_⟩
  obtain ⟨hc, q⟩ := guardR_post q
  cases hcl : cellL s1 d with
  | none => rw [hcl] at hc; cases hc
  | some p =>
    obtain ⟨n, xs⟩ := p
    obtain ⟨a, us, rfl, ha, hH, ru⟩ := cellL_ok S1 R hcl
    refine ⟨.inl ⟨rfl, us, .of hH⟩, ρ, s1, α1, E.mono l, S1, (post.step (rp := RepL G.K) q).imp fun vs H2 ⟨ds, s2, α2, l2, S2, R2, q2⟩ => ?_⟩
    exact md_fin (α := α) (H := H) S2 (R.mono l2) R2 q2
theorem de_md0 (C : Cm G X W k) (slot : Slot "list" name id) (hty : typeOf (.builtin id) = pure (.type "method_descriptor")) (hm : MdOk G X id m) (ho : DE G X W o f)
    (hbase : attributeBase o name X.env (eval o X.env) = eval o X.env := by rfl) (hline : (apos.endLine == cpos.line) = true := by rfl) : DE G X W (.Call (.Attribute o name apos) [] [] cpos) (mdE m f nilL) := by
  refine ⟨(pe_bm0 PySem.F.plainAttrs_list slot hty hm ho.pe hbase hline).imp ?_⟩
  intro σ H Q hq
  obtain ⟨ρ, st, α, E, S, q⟩ := hq
  refine ⟨ρ, st, α, E, S, (post.step (rp := Rep G.K) q).imp fun x H1 ⟨d, s1, α1, l, S1, R, q⟩ => ?_⟩
  obtain ⟨hc, q⟩ := guardR_post q
  cases hcl : cellL s1 d with
  | none => rw [hcl] at hc; cases hc
  | some p =>
    obtain ⟨n, xs⟩ := p
    obtain ⟨a, us, rfl, ha, hH, ru⟩ := cellL_ok S1 R hcl
    exact ⟨.inl ⟨rfl, us, .of hH⟩, md_fin (α := α) (H := H) S1 R (ds := []) rfl q⟩
end
/-! xs[i] = e -/
def setR (x i d : D) (s : Store) : Option Store := match i with
  | .int i => (match cellL s x with
    | some (n, xs) => (ixN xs.length i).map fun j => s.set n (.lst (xs.set j d))
    | none => none)
  | _ => none
def storeO (o : Option Store) (k : Store → Out) : Out := match o with
  | some s => k s
  | none => .stuck
def setS (e x i : Den) : DenS := fun ρ st => thenO (e ρ st) ρ fun d s => thenO (x ρ s) ρ fun a s2 => thenO (i ρ s2) ρ fun b s3 => storeO (setR a b d s3) fun s4 => .next ρ s4
section
variable {G : Gm} {W : WX} {X : Cx} {k : Nat} {e o i : Expr} {f g h : Den} {pos pos' : Pos}
theorem ds_setItem (he : DE G X W e f) (ho : DE G X W o g) (hi : DE G X W i h) (hs : swapsWithSole [.Subscript o i pos'] e pos.line X.env = pure false := by rfl) (hw : swappedStores [.Subscript o i pos'] e X.env = pure none := by rfl)
    (h1 : (assignEach [.Subscript o i pos'] X.env).map (·.2) = [assign (.Subscript o i pos') X.env] := by rfl)
    (ha : ∀ v, assign (.Subscript o i pos') X.env v = (do
      let ov ← holding [v] (eval o X.env)
      let iv ← holding [v, ov] (eval i X.env)
      standAt pos'
      holding [v, ov, iv] (setItem ov iv v)
      release [v, ov, iv] []) := by intro _; rfl) : DS G X W (.Assign [.Subscript o i pos'] e pos) (setS f g h) := by
  refine ⟨(ps_asg he.pe (pg_sub ho.pe hi.pe set_list ha) hs hw h1).imp ?_⟩
  intro D σ H hq
  obtain ⟨ρ, st, α, E, S, q⟩ := hq
  refine ⟨ρ, st, α, E, S, (postS.step (rp := Rep G.K) E q).imp fun x H1 ⟨d, s1, α1, l, S1, R, q⟩ => ?_⟩
  refine ⟨ρ, s1, α1, E.mono l, S1, (postS.step (rp := Rep G.K) (E.mono l) q).imp fun y H2 ⟨a, s2, α2, l2, S2, R2, q2⟩ => ?_⟩
  refine ⟨ρ, s2, α2, (E.mono l).mono l2, S2, (postS.step (rp := Rep G.K) ((E.mono l).mono l2) q2).imp fun z H3 ⟨b, s3, α3, l3, S3, R3, q3⟩ => ?_⟩
  cases hsr : setR a b d s3 with
  | none => rw [hsr] at q3; exact q3.elim
  | some s4 =>
    rw [hsr] at q3
    unfold setR at hsr
    split at hsr
    · rename_i ii
      split at hsr
      · rename_i n xs hc
        obtain ⟨ad, us, rfl, had, hH, ru⟩ := cellL_ok S3 (R2.mono l3) hc
        cases hj : ixN xs.length ii with
        | none => rw [hj] at hsr; cases hsr
        | some j =>
          rw [hj] at hsr
          cases hsr
          cases (show z = V.int ii from R3)
          refine ⟨ad, us, ii, j, rfl, rfl, hH, by rw [← ru.len]; exact hj, ?_⟩
          have lw : Le α3 H3 α3 (upd H3 ad (.lst (us.set j x))) := Le.write (List.mem_of_getElem? had)
          exact q3 σ α3 _ lw (S3.write (c := .lst (xs.set j d)) had ⟨_, upd_same, (ru.set ((R.mono l2).mono l3) j).mono lw⟩) ((((E.mono l).mono l2).mono l3).mono lw)
      · cases hsr
    · cases hsr
end
end DL

namespace DL
open PySem PySem.Spec PyProof.Rows L2

/-! ### built-in functions -/
/-- the built-in names that the text leaves alone -/
structure Bl (G : Gm) (P : Program) (w : World) (mg : Str → Option Value) : Prop where
  pr : P = G.pr
  wd : w = G.wd
  abs : mg "abs" = none
  all : mg "all" = none
  enumerate : mg "enumerate" = none
  int : mg "int" = none
  bool : mg "bool" = none
  isinstance : mg "isinstance" = none
  len : mg "len" = none
  list : mg "list" = none
  max : mg "max" = none
  min : mg "min" = none
  range : mg "range" = none
  set : mg "set" = none
  sorted : mg "sorted" = none
  str : mg "str" = none
  sum : mg "sum" = none
  tuple : mg "tuple" = none
  zip : mg "zip" = none
def lenO : OL := fun ds st => match ds with
  | [.str z] => if z.length ≤ sizeLine then some (.int z.length) else none
  | [d] => (view st d).map fun xs => .int xs.length
  | _ => none
def absO : OL := fun ds _ => match ds with
  | [.int i] => some (.int (if i < 0 then -i else i))
  | _ => none
def intO : OL := fun ds _ => match ds with
  | [.int i] => some (.int i)
  | [.bl b] => some (.int (if b then 1 else 0))
  | _ => none
def strO : OL := fun ds _ => match ds with
  | [.int i] => if i.natAbs.log2 < 1920 then some (.str (ToString.toString i)) else none
  | _ => none
def intsOf : List D → Option (List Int)
  | [] => some []
  | .int i :: r => (intsOf r).map (i :: ·)
  | _ :: _ => none
def blsOf : List D → Option (List Bool)
  | [] => some []
  | .bl i :: r => (blsOf r).map (i :: ·)
  | _ :: _ => none
def sumO : OL := fun ds st => match ds with
  | [d] => ((view st d).bind intsOf).map fun ns => .int ns.sum
  | _ => none
def maxI : List Int → Int
  | [] => 0
  | x :: r => r.foldl (fun a b => if a < b then b else a) x
def minI : List Int → Int
  | [] => 0
  | x :: r => r.foldl (fun a b => if b < a then b else a) x
def maxO : OL := fun ds st => match ds with
  | [d] => ((viewL st d).bind intsOf).bind fun ns => if 0 < ns.length then some (.int (maxI ns)) else none
  | [.int i, .int j] => some (.int (if j > i then j else i))
  | _ => none
def minO : OL := fun ds st => match ds with
  | [d] => ((viewL st d).bind intsOf).bind fun ns => if 0 < ns.length then some (.int (minI ns)) else none
  | [.int i, .int j] => some (.int (if j < i then j else i))
  | _ => none
def allO : OL := fun ds st => match ds with
  | [d] => ((viewL st d).bind blsOf).map fun bs => .bl (bs.all id)
  | _ => none
def tupleO : OL := fun ds st => match ds with
  | [.tup xs] => some (.tup xs)
  | [d] => (viewL st d).map .tup
  | _ => none
def listO : OL := fun ds st => match ds with
  | [d] => (view st d).map .lst
  | _ => none
theorem intsOf_eq : ∀ {ds : List D} {ns : List Int}, intsOf ds = some ns → ds = ns.map D.int
  | [], ns, h => by cases h; rfl
  | .int i :: r, ns, h => by
    have h : (intsOf r).map (i :: ·) = some ns := h
    cases e : intsOf r with
    | none => rw [e] at h; cases h
    | some ms => rw [e] at h; cases h; rw [intsOf_eq e]; rfl
  | .non :: _, _, h => by cases h
  | .bl _ :: _, _, h => by cases h
  | .str _ :: _, _, h => by cases h
  | .tup _ :: _, _, h => by cases h
  | .lst _ :: _, _, h => by cases h
  | .ref _ :: _, _, h => by cases h
  | .scr _ :: _, _, h => by cases h
  | .ltp _ :: _, _, h => by cases h
theorem intsOf_map : ∀ ns : List Int, intsOf (ns.map D.int) = some ns
  | [] => rfl
  | n :: ns => by
    show (intsOf (ns.map D.int)).map (n :: ·) = _
    rw [intsOf_map ns]; rfl
theorem blsOf_eq : ∀ {ds : List D} {ns : List Bool}, blsOf ds = some ns → ds = ns.map D.bl
  | [], ns, h => by cases h; rfl
  | .bl i :: r, ns, h => by
    have h : (blsOf r).map (i :: ·) = some ns := h
    cases e : blsOf r with
    | none => rw [e] at h; cases h
    | some ms => rw [e] at h; cases h; rw [blsOf_eq e]; rfl
  | .non :: _, _, h => by cases h
  | .int _ :: _, _, h => by cases h
  | .str _ :: _, _, h => by cases h
  | .tup _ :: _, _, h => by cases h
  | .lst _ :: _, _, h => by cases h
  | .ref _ :: _, _, h => by cases h
  | .scr _ :: _, _, h => by cases h
  | .ltp _ :: _, _, h => by cases h
theorem blsOf_map : ∀ ns : List Bool, blsOf (ns.map D.bl) = some ns
  | [] => rfl
  | n :: ns => by
    show (blsOf (ns.map D.bl)).map (n :: ·) = _
    rw [blsOf_map ns]; rfl
theorem max_fold : ∀ (r : List Int) (x : Int), (r.foldl (fun a b => if a < b then b else a) x ∈ x :: r) ∧ ∀ y ∈ x :: r, y ≤ r.foldl (fun a b => if a < b then b else a) x
  | [], x => ⟨by simp, by simp⟩
  | z :: r, x => by
    obtain ⟨h1, h2⟩ := max_fold r (if x < z then z else x)
    refine ⟨?_, fun y hy => ?_⟩
    · show List.foldl _ (if x < z then z else x) r ∈ _
      rcases List.mem_cons.mp h1 with e | e
      · rw [e]; split <;> simp
      · exact List.mem_cons_of_mem _ (List.mem_cons_of_mem _ e)
    · show y ≤ List.foldl _ (if x < z then z else x) r
      have hm := h2 _ List.mem_cons_self
      rcases List.mem_cons.mp hy with rfl | hy
      · exact Int.le_trans (show y ≤ if y < z then z else y by split <;> omega) hm
      · rcases List.mem_cons.mp hy with rfl | hy
        · exact Int.le_trans (show y ≤ if x < y then y else x by split <;> omega) hm
        · exact h2 y (List.mem_cons_of_mem _ hy)
theorem min_fold : ∀ (r : List Int) (x : Int), (r.foldl (fun a b => if b < a then b else a) x ∈ x :: r) ∧ ∀ y ∈ x :: r, r.foldl (fun a b => if b < a then b else a) x ≤ y
  | [], x => ⟨by simp, by simp⟩
  | z :: r, x => by
    obtain ⟨h1, h2⟩ := min_fold r (if z < x then z else x)
    refine ⟨?_, fun y hy => ?_⟩
    · show List.foldl _ (if z < x then z else x) r ∈ _
      rcases List.mem_cons.mp h1 with e | e
      · rw [e]; split <;> simp
      · exact List.mem_cons_of_mem _ (List.mem_cons_of_mem _ e)
    · show List.foldl _ (if z < x then z else x) r ≤ y
      have hm := h2 _ List.mem_cons_self
      rcases List.mem_cons.mp hy with rfl | hy
      · exact Int.le_trans hm (show (if z < y then z else y) ≤ y by split <;> omega)
      · rcases List.mem_cons.mp hy with rfl | hy
        · exact Int.le_trans hm (show (if y < x then y else x) ≤ y by split <;> omega)
        · exact h2 y (List.mem_cons_of_mem _ hy)
theorem maxI_of {ns : List Int} (h : 0 < ns.length) : maxI ns ∈ ns ∧ ∀ y ∈ ns, y ≤ maxI ns := by
  cases ns with
  | nil => simp at h
  | cons x r => exact max_fold r x
theorem minI_of {ns : List Int} (h : 0 < ns.length) : minI ns ∈ ns ∧ ∀ y ∈ ns, minI ns ≤ y := by
  cases ns with
  | nil => simp at h
  | cons x r => exact min_fold r x
section
variable {G : Gm} {W : WX} {X : Cx} {k : Nat} {α : List Addr} {H : Hp} {st : Store}
theorem RepL.two {K : PySem.W.Frag} {d e : D} {vs : List V} (r : RepL K α H [d, e] vs) : ∃ v w, vs = [v, w] ∧ Rep K α H d v ∧ Rep K α H e w := by
  obtain ⟨v, r', rfl, h1, h2⟩ := (show ∃ v r, vs = v :: r ∧ Rep K α H d v ∧ RepL K α H [e] r from r)
  obtain ⟨w, rfl, h3⟩ := h2.one
  exact ⟨v, w, rfl, h1, h3⟩
/-- f(e, ..), f a built-in function -/
theorem de_callB {x : Str} {p pos : Pos} {e : Expr} {es : List Expr} {g : DenL} {o : OL} {id : String} (hc : CallR X (.builtin id) (rdC G o)) (hg : Gl X x) (hm : X.mg x = none) (hv : bootBuiltins x = some (.builtin id)) (ha : DA G X W (e :: es) g) (hn : x ≠ "__name__" := by decide) (hdb : (x == ("__debug__" : Str)) = false := by decide)
    (he : starEach (e :: es) X.env = (false, eval e X.env) :: starEach es X.env := by rfl) (hpl : (backTo pos (starEach es X.env)).any (·.1) = false := by rfl) : DE G X W (.Call (.Name x p) (e :: es) [] pos) (opL o g) := by
  refine ⟨(pe_callB hc hg hm hv ha.pa hn hdb he hpl).imp ?_⟩
  intro σ H Q hq
  obtain ⟨ρ, st, α, E, S, q⟩ := hq
  exact ⟨ρ, st, α, E, S, (post.step (rp := RepL G.K) q).imp fun vs H1 ⟨ds, s1, α1, l, S1, R, q⟩ => ⟨ds, s1, α1, S1, R, got.of q⟩⟩
theorem de_callTy {x : Str} {p pos : Pos} {e : Expr} {es : List Expr} {g : DenL} {o : OL} {T : String} (hc : CallR X (.type T) (rdC G o)) (hg : Gl X x) (hm : X.mg x = none) (hv : bootBuiltins x = some (.type T)) (ha : DA G X W (e :: es) g) (hn : x ≠ "__name__" := by decide) (hdb : (x == ("__debug__" : Str)) = false := by decide)
    (he : starEach (e :: es) X.env = (false, eval e X.env) :: starEach es X.env := by rfl) (hpl : (backTo pos (starEach es X.env)).any (·.1) = false := by rfl) : DE G X W (.Call (.Name x p) (e :: es) [] pos) (opL o g) := by
  refine ⟨(pe_callTy hc hg hm hv ha.pa hn hdb he hpl).imp ?_⟩
  intro σ H Q hq
  obtain ⟨ρ, st, α, E, S, q⟩ := hq
  exact ⟨ρ, st, α, E, S, (post.step (rp := RepL G.K) q).imp fun vs H1 ⟨ds, s1, α1, l, S1, R, q⟩ => ⟨ds, s1, α1, S1, R, got.of q⟩⟩
theorem cr_len (C : Cm G X W k) : CallR X (.builtin "len") (rdC G lenO) := call_len.imp fun vs H Q ⟨ds, st, α, S, R, g⟩ => by
  unfold lenO at g
  split at g
  · rename_i z
    obtain ⟨v, rfl, r⟩ := R.one
    obtain ⟨e, _⟩ := (show v = V.str z ∧ _ from r)
    subst e
    split at g
    · rename_i hl
      exact ⟨_, z.length, rfl, ⟨hl, rfl⟩, got.here (d := .int _) S rfl g⟩
    · exact g.elim
  · rename_i d _
    obtain ⟨v, rfl, r⟩ := R.one
    cases hv : view st d with
    | none => rw [hv] at g; exact g.elim
    | some xs =>
      rw [hv] at g
      obtain ⟨p, us, rfl, t, ru⟩ := view_ok S r hv
      rw [C.K]
      refine ⟨.ref p, xs.length, rfl, ?_, got.here (d := .int _) S rfl g⟩
      rcases t with t | t
      · exact .inl ⟨us, t, ru.len⟩
      · exact .inr ⟨us, t, ru.len⟩
  · exact g.elim
theorem cr_abs : CallR X (.builtin "abs") (rdC G absO) := call_abs.imp fun vs H Q ⟨ds, st, α, S, R, g⟩ => by
  unfold absO at g
  split at g
  · obtain ⟨v, rfl, r⟩ := R.one
    cases (show v = _ from r)
    exact ⟨_, rfl, got.here (d := .int _) S rfl g⟩
  · exact g.elim
theorem cr_int : CallR X (.type "int") (rdC G intO) := call_int1.imp fun vs H Q ⟨ds, st, α, S, R, g⟩ => by
  unfold intO at g
  split at g
  · obtain ⟨v, rfl, r⟩ := R.one
    cases (show v = _ from r)
    exact .inl ⟨_, rfl, got.here (d := .int _) S rfl g⟩
  · obtain ⟨v, rfl, r⟩ := R.one
    cases (show v = _ from r)
    exact .inr ⟨_, rfl, got.here (d := .int _) S rfl g⟩
  · exact g.elim
theorem tup_sum {prog : Program} {w : World} {A : Around} {E : Value → Shared → Prop} {s : Shared} {p : Addr} {vs : List Value} {ns : List Int} {Q : Value → Shared → Prop} (hA : A.handled = none) (hp : s.heap.IsTuple p vs.toArray) (hn : IntsAre vs ns)
    (q : ∀ h1 k t, (∀ b o, s.heap.get? b = some o → h1.get? b = some o) → Q (.int ns.sum t) { s with heap := h1, toks := k }) : wpAny (model prog w) A (call (.builtin "sum") [.ref p]) Q E s := by
  obtain ⟨zs, ez⟩ := hn.allInts.items
  have sums := hn.numsOf
  rw [show vs = (intItems zs).toList by rw [← ez], nums_intItems] at sums
  rw [ez] at hp
  refine PySem.W.ktm_sumG hA hp fun h1 k t keep => ?_
  have := q h1 k t keep
  rwa [preSum_eq, List.take_of_length_le (by simp), sums]
theorem cr_sumD (C : Cm G X W k) : CallR X (.builtin "sum") (rdC G sumO) := by
  intro pins s σ H vs us Q I rv ⟨ds, st, α, S, R, g⟩
  unfold sumO at g
  split at g
  · rename_i d
    obtain ⟨v, rfl, r⟩ := R.one
    cases hv : view st d with
    | none => rw [hv] at g; exact g.elim
    | some xs =>
      rw [hv] at g
      cases hi : intsOf xs with
      | none => rw [show (some xs).bind intsOf = intsOf xs from rfl, hi] at g; exact g.elim
      | some ns =>
        rw [show (some xs).bind intsOf = intsOf xs from rfl, hi] at g
        obtain ⟨p, ws, rfl, t, ru⟩ := view_ok S r hv
        cases intsOf_eq hi
        cases RepL.of_ints ru
        have q : Q (.int ns.sum) H := got.here (d := .int _) S rfl g
        rw [← C.K] at t
        rcases t with t | t
        · exact cr_sum C.calm pins s σ H _ us Q I rv ⟨p, ns, rfl, t, q⟩
        · obtain ⟨u, rfl, ru'⟩ := vals1 rv
          cases ru'
          obtain ⟨its, rv2, tp, hz⟩ := I.tuple t
          exact tup_sum (I.ok.hd C.calm) tp (Vals.ints rv2) fun h' tk t' hk => ⟨.int ns.sum, H, I.kept (h' := h') (t' := tk) hk, ⟨_, rfl⟩, q⟩
  · exact g.elim
theorem cr_maxD (C : Cm G X W k) : CallR X (.builtin "max") (rdC G maxO) := by
  refine ((cr_max C.calm).or (call_max2 C.calm)).imp fun vs H Q ⟨ds, st, α, S, R, g⟩ => ?_
  unfold maxO at g
  split at g
  · rename_i d
    obtain ⟨v, rfl, r⟩ := R.one
    cases hv : viewL st d with
    | none => rw [hv] at g; exact g.elim
    | some xs =>
      rw [hv, show (some xs).bind intsOf = intsOf xs from rfl] at g
      cases hi : intsOf xs with
      | none => rw [hi] at g; exact g.elim
      | some ns =>
        rw [hi] at g
        have g : got G α H st (if 0 < ns.length then some (.int (maxI ns)) else none) Q := g
        split at g
        · rename_i hl
          obtain ⟨p, ws, rfl, t, ru⟩ := viewL_ok S r hv
          cases intsOf_eq hi
          cases RepL.of_ints ru
          refine .inl ⟨p, ns, rfl, .of t, hl, fun m hm hle => ?_⟩
          obtain ⟨h1, h2⟩ := maxI_of hl
          have e : m = maxI ns := Int.le_antisymm (h2 m hm) (hle _ h1)
          subst e
          exact got.here (d := .int _) S rfl g
        · exact g.elim
  · obtain ⟨v, w, rfl, r1, r2⟩ := R.two
    cases (show v = _ from r1)
    cases (show w = _ from r2)
    exact .inr ⟨_, _, rfl, got.here (d := .int _) S rfl g⟩
  · exact g.elim
theorem cr_minD (C : Cm G X W k) : CallR X (.builtin "min") (rdC G minO) := by
  refine ((cr_min C.calm).or (call_min2 C.calm)).imp fun vs H Q ⟨ds, st, α, S, R, g⟩ => ?_
  unfold minO at g
  split at g
  · rename_i d
    obtain ⟨v, rfl, r⟩ := R.one
    cases hv : viewL st d with
    | none => rw [hv] at g; exact g.elim
    | some xs =>
      rw [hv, show (some xs).bind intsOf = intsOf xs from rfl] at g
      cases hi : intsOf xs with
      | none => rw [hi] at g; exact g.elim
      | some ns =>
        rw [hi] at g
        have g : got G α H st (if 0 < ns.length then some (.int (minI ns)) else none) Q := g
        split at g
        · rename_i hl
          obtain ⟨p, ws, rfl, t, ru⟩ := viewL_ok S r hv
          cases intsOf_eq hi
          cases RepL.of_ints ru
          refine .inl ⟨p, ns, rfl, .of t, hl, fun m hm hle => ?_⟩
          obtain ⟨h1, h2⟩ := minI_of hl
          have e : m = minI ns := Int.le_antisymm (hle _ h1) (h2 m hm)
          subst e
          exact got.here (d := .int _) S rfl g
        · exact g.elim
  · obtain ⟨v, w, rfl, r1, r2⟩ := R.two
    cases (show v = _ from r1)
    cases (show w = _ from r2)
    exact .inr ⟨_, _, rfl, got.here (d := .int _) S rfl g⟩
  · exact g.elim
theorem RepL.of_bls {K : PySem.W.Frag} : ∀ {ns : List Bool} {vs : List V}, RepL K α H (ns.map D.bl) vs → vs = ns.map V.bl
  | [], _, h => h
  | n :: ns, _, h => by
    obtain ⟨v, r, rfl, h1, h2⟩ := (show ∃ v r, _ ∧ Rep K α H (.bl n) v ∧ RepL K α H (ns.map D.bl) r from h)
    rw [RepL.of_bls h2, List.map_cons]
    cases (show v = .bl n from h1)
    rfl
theorem cr_allD (C : Cm G X W k) : CallR X (.builtin "all") (rdC G allO) := (cr_all C.calm).imp fun vs H Q ⟨ds, st, α, S, R, g⟩ => by
  unfold allO at g
  split at g
  · rename_i d
    obtain ⟨v, rfl, r⟩ := R.one
    cases hv : viewL st d with
    | none => rw [hv] at g; exact g.elim
    | some xs =>
      rw [hv, show (some xs).bind blsOf = blsOf xs from rfl] at g
      cases hi : blsOf xs with
      | none => rw [hi] at g; exact g.elim
      | some bs =>
        rw [hi] at g
        obtain ⟨p, ws, rfl, t, ru⟩ := viewL_ok S r hv
        cases blsOf_eq hi
        cases RepL.of_bls ru
        exact ⟨p, bs, rfl, .of t, got.here (d := .bl _) S rfl g⟩
  · exact g.elim
/-- tuple(x): of a list a new one, of a tuple itself -/
theorem call_tupF : CallR X (.type "tuple") (fun xs H Q => ∃ p ys, xs = [.ref p] ∧ ((SqL X.K H p ys ∧ ∀ (l : Addr) (o : Obj), H l = none → o.dict = none → Q (.ref l) (upd H l (.frz o (.tup ys)))) ∨ (SqT X.K H p ys ∧ Q (.ref p) H))) := by
  intro pins s σ H xs us Q I r ⟨p, ys, ex, h⟩
  subst ex
  rw [Vals.ref1 r]
  rcases h with ⟨hq, q⟩ | ⟨hq, q⟩
  · obtain ⟨its, r', pl, hz⟩ := I.list hq
    refine call_tuple_list pl.isList (fun h1 keep => ?_) (by rw [List.size_toArray, ← r'.length]; exact hz)
    have J : Inv X pins σ H { s with heap := h1 } := I.kept (t' := s.toks) keep
    exact lay_tup (n := 0) J r' hz q
  · obtain ⟨its, _, pl, _⟩ := I.tuple hq
    exact call_tuple_same pl ⟨.ref p, H, I, rfl, q⟩
theorem cr_tupleD (C : Cm G X W k) : CallR X (.type "tuple") (rdC G tupleO) := call_tupF.imp fun vs H Q ⟨ds, st, α, S, R, g⟩ => by
  unfold tupleO at g
  split at g
  · rename_i xs
    obtain ⟨v, rfl, r⟩ := R.one
    obtain ⟨a, us, rfl, t, ru⟩ := r.tupOf
    exact ⟨a, us, rfl, .inr ⟨by rw [C.K]; exact t.seq, got.here S r g⟩⟩
  · rename_i d _
    obtain ⟨v, rfl, r⟩ := R.one
    cases hv : viewL st d with
    | none => rw [hv] at g; exact g.elim
    | some xs =>
      rw [hv] at g
      obtain ⟨p, us, rfl, t, ru⟩ := viewL_ok S r hv
      exact ⟨p, us, rfl, .inl ⟨.of t, got.tup S ru g⟩⟩
  · exact g.elim
theorem cr_listD (C : Cm G X W k) : CallR X (.type "list") (rdC G listO) := call_list_of.imp fun vs H Q ⟨ds, st, α, S, R, g⟩ => by
  unfold listO at g
  split at g
  · rename_i d
    obtain ⟨v, rfl, r⟩ := R.one
    cases hv : view st d with
    | none => rw [hv] at g; exact g.elim
    | some xs =>
      rw [hv] at g
      obtain ⟨p, us, rfl, t, ru⟩ := view_ok S r hv
      rw [C.K]
      exact ⟨p, us, rfl, t, got.lst S ru g⟩
  · exact g.elim
end
/-! isinstance(x, T), T one of int, bool, str, tuple, list -/
def isOf (T : String) (st : Store) (d : D) : Option Bool := match d with
  | .non => kitB "NoneType" T
  | .bl _ => kitB "bool" T
  | .int _ => kitB "int" T
  | .str _ => kitB "str" T
  | .tup _ => kitB "tuple" T
  | .lst _ => kitB "list" T
  | .scr _ => kitB "list" T
  | .ltp _ => none
  | .ref n => match st[n]? with
    | some (.lst _) => kitB "list" T
    | _ => none
def isiD (T : String) : O1 := fun d st => (isOf T st d).map .bl
section
variable {G : Gm} {W : WX} {X : Cx} {k : Nat} {α : List Addr} {H : Hp} {st : Store} {e : Expr} {f : Den}
theorem isOf_ok (S : SR G α st H) {T : String} {d : D} {v : V} {b : Bool} (r : Rep G.K α H d v) (h : isOf T st d = some b) : ∃ t, TyX G.K H v (.type t) ∧ kitB t T = some b := by
  cases d with
  | non => cases (show v = _ from r); exact ⟨_, .base .non, h⟩
  | bl x => cases (show v = _ from r); exact ⟨_, .base (.bl x), h⟩
  | int x => cases (show v = _ from r); exact ⟨_, .base (.int x), h⟩
  | str x =>
    obtain ⟨e, _⟩ := (show v = V.str x ∧ _ from r)
    subst e
    exact ⟨_, .base (.str x), h⟩
  | tup xs =>
    obtain ⟨a, vs, rfl, t, _⟩ := r.tupOf
    rcases t with ⟨_, o, t, _⟩ | ⟨o, its, n, hk, hc, _⟩
    · exact ⟨_, .fTuple t, h⟩
    · exact ⟨_, .kTuple hk hc, h⟩
  | lst xs =>
    obtain ⟨a, vs, rfl, t, _⟩ := (show ∃ a vs, v = V.ref a ∧ LstAt α H a vs ∧ RepL G.K α H xs vs from r)
    exact ⟨_, .base (.lst t.2), h⟩
  | scr ns =>
    obtain ⟨a, rfl, t⟩ := (show ∃ a, _ ∧ ScrAt G.K α H a (ns.map V.int) from r)
    rcases t with ⟨_, t | ⟨o, t⟩⟩ | ⟨o, its, n, hk, hc, _⟩
    · exact ⟨_, .base (.lst t), h⟩
    · exact ⟨_, .base (.frz t), h⟩
    · exact ⟨_, .kList hk hc, h⟩
  | ltp xs => cases h
  | ref n =>
    obtain ⟨a, rfl, q⟩ := (show ∃ a, _ ∧ α[n]? = some a from r)
    unfold isOf at h
    dsimp only at h
    split at h
    · rename_i xs hs
      obtain ⟨vs, e2, _⟩ := S.cell n a _ q hs
      exact ⟨_, .base (.lst e2), h⟩
    · cases h
theorem de_isi (T : String) {x : Str} {p q pos : Pos} (C : Cm G X W k) (hg : Gl X "isinstance") (hm : X.mg "isinstance" = none) (hgx : Gl X x) (hmx : X.mg x = none) (hvx : bootBuiltins x = some (.type T)) (he : DE G X W e f) (hnx : x ≠ "__name__" := by decide) (hdx : (x == ("__debug__" : Str)) = false := by decide)
    (hs : starEach [e, .Name x q] X.env = (false, eval e X.env) :: starEach [.Name x q] X.env := by rfl) (hs2 : starEach [.Name x q] X.env = (false, eval (.Name x q) X.env) :: starEach [] X.env := by rfl) (hpl : (backTo pos (starEach [.Name x q] X.env)).any (·.1) = false := by rfl) :
    DE G X W (.Call (.Name "isinstance" p) [e, .Name x q] [] pos) (op1 (isiD T) f) := by
  refine ⟨(pe_callB call_isi hg hm (by decide +kernel) (pa_cons he.pe (pa_cons (pe_bltn (v := .ty T) hgx hmx hvx rfl hnx hdx) pa_nil hs2) hs) (by decide) (by decide) hs hpl).imp ?_⟩
  intro σ H Q hq
  obtain ⟨ρ, st, α, E, S, h⟩ := hq
  refine ⟨ρ, st, α, E, S, (post.step (rp := Rep G.K) h).imp fun x H1 ⟨d, s1, α1, l, S1, R, h⟩ => ?_⟩
  have g := got.of h
  unfold isiD at g
  cases hi : isOf T s1 d with
  | none => rw [hi] at g; exact g.elim
  | some b =>
    rw [hi] at g
    obtain ⟨t, ty, kb⟩ := isOf_ok S1 R hi
    rw [C.K]
    exact ⟨x, .ty T, .type t, .type T, b, rfl, .ty T, ty, kit_ty kb, got.here (d := .bl b) S1 rfl g⟩
end
end DL

namespace DL
open PySem PySem.Spec PyProof.Rows L2

/-! ### defs -/
/-- a list that the def has made is handed over as it stands -/
def frz (st : Store) (d : D) (s : Store) : D := match d with
  | .ref n => if st.length ≤ n then (match s[n]? with
    | some (.lst xs) => .lst xs
    | _ => .ref n) else .ref n
  | d => d
def cutX (st : Store) (c : Str) (s : Store) : Res D := if CutS st s then .exc c (s.take st.length) else .stuck
def leave (st : Store) (o : Out) : Res D := match o with
  | .next _ s => cutR st .non s
  | .ret d s => cutR st (frz st d s) s
  | .exc c _ s => cutX st c s
  | _ => .stuck
def leaveK (st : Store) (o : Out) : Res D := match o with
  | .ret d s => .ok d s
  | _ => .stuck
abbrev Fn := List D → Store → Res D
def envOf (N n : Nat) (ds : List D) : Env := ds.map some ++ List.replicate (N - n) none
def defG (N n : Nat) (b : DenS) : Fn := fun ds st => if ds.length = n then leave st (b (envOf N n ds) st) else .stuck
def defK (N n : Nat) (b : DenS) : Fn := fun ds st => if ds.length = n then leaveK st (b (envOf N n ds) st) else .stuck
def WD (E : XK) : WX := fun cls d _ H => E cls d H
/-- what a def promises, by what it does to data -/
def spOf (G : Gm) (n : Nat) (g : Fn) : Sp := fun vs H Q E => ∃ ds st α, ds.length = n ∧ SR G α st H ∧ RepL G.K α H ds vs ∧ post G (WD E) (Rep G.K) α H (g ds st) [] Q
structure Cal (G : Gm) (P : Program) (w : World) (mg : Str → Option Value) (base : Heap) (k : Nat) (x : Str) (n : Nat) (g : Fn) : Prop where
  ex : ∃ (f : Addr) (fd : FuncData) (ps : List Str), ps.length = n ∧ mg x = some (.ref f) ∧ PySem.W.keepIn G.K (.ref f) = true ∧ Binds G.K fd ps [] ∧ FnOk P w G.K mg base (L2.CX P w) k f fd ps (spOf G n g)
theorem Cal.mono {G : Gm} {P : Program} {w : World} {mg : Str → Option Value} {base : Heap} {j k : Nat} {x : Str} {n : Nat} {g : Fn} (c : Cal G P w mg base j x n g) (h : j ≤ k) : Cal G P w mg base k x n g := by
  obtain ⟨f, fd, ps, h1, h2, h3, h4, h5⟩ := c.ex
  exact ⟨f, fd, ps, h1, h2, h3, h4, h5.mono h⟩
def callE (n : Nat) (g : Fn) (f : DenL) : Den := fun ρ st => (f ρ st).bind fun ds s => if ds.length = n then g ds s else .stuck
section
variable {G : Gm} {W : WX} {X : Cx} {k : Nat} {x : Str} {p pos : Pos} {e : Expr} {es : List Expr} {f : DenL} {n : Nat} {g : Fn}
theorem post.wish {A B : Type} {rp : List Addr → Hp → A → B → Prop} {α : List Addr} {H : Hp} {r : Res A} {σ σ' : L2.St} {W W' : WX} {Q : B → Hp → Prop} (h : post G W rp α H r σ Q) (i : ∀ c H, W c none σ H → W' c none σ' H) : post G W' rp α H r σ' Q := by
  cases r with
  | ok a s => exact h
  | exc c s => exact fun α1 H1 l S => i _ _ (h α1 H1 l S)
  | stuck => exact h
theorem de_call (C : Cm G X W k) (c : Cal G X.prog X.w X.mg X.base k x n g) (hg : Gl X x) (ha : DA G X W (e :: es) f) (hdb : (x == ("__debug__" : Str)) = false := by decide) (he : starEach (e :: es) X.env = (false, eval e X.env) :: starEach es X.env := by rfl)
    (hpl : (backTo pos (starEach es X.env)).any (·.1) = false := by rfl) : DE G X W (.Call (.Name x p) (e :: es) [] pos) (callE n g f) := by
  obtain ⟨fa, fd, ps, h1, h2, h3, h4, h5⟩ := c.ex
  rw [← C.K] at h3 h4 h5
  refine ⟨(pe_callSD (E := WE W) h5 C.room hg h2 h3 h4 .nil (passAt C.tk) ha.pa hdb he hpl).imp ?_⟩
  intro σ H Q hq
  obtain ⟨ρ, st, α, E, S, q⟩ := hq
  refine ⟨ρ, st, α, E, S, (post.step (rp := RepL G.K) q).imp fun vs H1 ⟨ds, s1, α1, l, S1, R, q⟩ => ?_⟩
  split at q
  · rename_i hl
    rw [List.append_nil]
    exact ⟨ds, s1, α1, hl, S1, R, post.wish q fun _ _ h => h⟩
  · exact q.elim
theorem de_call0 (C : Cm G X W k) (c : Cal G X.prog X.w X.mg X.base k x 0 g) (hg : Gl X x) (hdb : (x == ("__debug__" : Str)) = false := by decide) : DE G X W (.Call (.Name x p) [] [] pos) (callE 0 g nilL) := by
  obtain ⟨fa, fd, ps, h1, h2, h3, h4, h5⟩ := c.ex
  rw [← C.K] at h3 h4 h5
  refine ⟨⟨fun pins s σ H Q I hq => ?_⟩⟩
  obtain ⟨ρ, st, α, E, S, q⟩ := hq
  refine wpAny_Call_Name_kw (ld_glob I hg h2 ?_ hdb)
  refine PySem.W.callWith_K0 I.kIn h3 (run_fnSD (us := []) (dvs := []) h5 C.room h4 .nil (passAt C.tk σ) I .nil ?_)
  exact ⟨[], st, α, rfl, S, rfl, post.wish q fun _ _ h => h⟩
end
theorem envOf_ok {K : PySem.W.Frag} {α : List Addr} {H : Hp} {ds : List D} {vs : List V} {N : List Str} (r : RepL K α H ds vs) : EnvR K α H (envOf N.length ds.length ds) (L2.start N vs) := by
  have hl := r.len
  refine ⟨by simp [envOf, L2.start, hl], fun i d e => ?_⟩
  unfold envOf at e
  by_cases hi : i < ds.length
  · rw [List.getElem?_append_left (by simpa using hi), List.getElem?_map] at e
    cases h : ds[i]? with
    | none => rw [h] at e; cases e
    | some d' =>
      rw [h] at e
      cases e
      obtain ⟨v, e1, r1⟩ := r.get h
      refine ⟨v, ?_, r1⟩
      unfold L2.start
      rw [List.getElem?_append_left (by rw [List.length_map]; omega), List.getElem?_map, e1]
      rfl
  · rw [List.getElem?_append_right (by simpa using hi), List.getElem?_replicate] at e
    split at e <;> cases e
section
variable {G : Gm} {α : List Addr} {H : Hp} {st : Store}
/-- what is handed over behind a def -/
theorem frz_ok {α' : List Addr} {H0 H' : Hp} {s : Store} {d : D} {v : V} (S0 : SR G α st H0) (l : Le α H0 α' H') (S : SR G α' s H') (R : Rep G.K α' H' d v) (hl : lo st.length (frz st d s) = true) (hc : CutS st s) : Rep G.K α H' (frz st d s) v := by
  obtain ⟨β, rfl, _⟩ := l.pre
  unfold frz at hl ⊢
  split at hl
  · rename_i n
    obtain ⟨a, rfl, q⟩ := (show ∃ a, _ ∧ (α ++ β)[n]? = some a from R)
    split at hl
    · rename_i hn
      rw [if_pos hn]
      split at hl
      · rename_i xs hs
        obtain ⟨vs, e, r⟩ := S.cell n a _ q hs
        have na : a ∉ α := fun m => by
          obtain ⟨j, ej⟩ := List.mem_iff_getElem?.mp m
          have hj := (List.getElem?_eq_some_iff.mp ej).1
          have : (α ++ β)[j]? = some a := by rw [List.getElem?_append_left hj]; exact ej
          have := S.inj this q
          rw [S0.len] at hj
          omega
        exact ⟨a, vs, rfl, ⟨na, e⟩, r.cut (by rw [S0.len]; exact hl)⟩
      · exact R.cut (by rw [S0.len]; exact hl)
    · rename_i hn
      rw [if_neg hn]
      exact R.cut (by rw [S0.len]; exact hl)
  · exact R.cut (by rw [S0.len]; exact hl)
theorem leave_post {E : XK} {D : Ends} {Q : VK} {o : Out} (S : SR G α st H) (hn : D.nx = fun _ H' => Q .non H') (hr : D.rt = Q) (h : post G (WD E) (Rep G.K) α H (leave st o) [] Q) : postS G (WD E) α H o D := by
  cases o with
  | next ρ s =>
    intro σ' α' H' l S' E'
    rw [hn]
    exact cutR_post (d := .non) S l S' rfl h
  | ret d s =>
    intro v α' H' l S' R'
    rw [hr]
    have h : post G (WD E) (Rep G.K) α H (cutR st (frz st d s) s) [] Q := h
    unfold cutR at h
    split at h
    · rename_i hc
      obtain ⟨β, e, hb⟩ := l.pre
      subst e
      exact h v α H' l.cut (S.cut l S' hc.2) (frz_ok S l S' R' hc.1 hc.2)
    · exact h.elim
  | brk ρ s => exact h.elim
  | cont ρ s => exact h.elim
  | stuck => exact h.elim
  | exc c ρ s =>
    intro σ' α' H' l S' E'
    have h : post G (WD E) (Rep G.K) α H (cutX st c s) [] Q := h
    unfold cutX at h
    split at h
    · rename_i hc
      obtain ⟨β, e, hb⟩ := l.pre
      subst e
      exact h α H' l.cut (S.cut l S' hc)
    · exact h.elim
theorem leaveK_post {E : XK} {D : Ends} {Q : VK} {o : Out} (hr : D.rt = Q) (h : post G (WD E) (Rep G.K) α H (leaveK st o) [] Q) : postS G (WD E) α H o D := by
  cases o with
  | ret d s =>
    rw [show postS G (WD E) α H (.ret d s) D = ∀ v α' H', Le α H α' H' → SR G α' s H' → Rep G.K α' H' d v → D.rt v H' from rfl, hr]
    exact h
  | _ => exact h.elim
variable {P : Program} {w : World} {mg : Str → Option Value} {base : Heap} {x q : Str} {params : Arguments} {body : List Stmt} {scope : Scope} {f : Addr} {fd : FuncData} {N ps : List Str} {k : Nat} {b : DenS} {g : Fn}
/-- the context of a def's body -/
abbrev XO (G : Gm) (P : Program) (w : World) (mg : Str → Option Value) (base : Heap) (N : List Str) (q : Str) (scope : Scope) (f : Addr) (cdv : Value) (A : Around) (outer : List PySem.Env) (s : Shared) (H : Hp) (E : XK) : Cx :=
  cxOf (L2.CX P w) P w G.K mg base N q scope f cdv A outer s H E
/-- a def's body does b -/
def BodyOk (G : Gm) (P : Program) (w : World) (mg : Str → Option Value) (base : Heap) (N : List Str) (q : Str) (scope : Scope) (k : Nat) (body : List Stmt) (b : DenS) : Prop :=
  ∀ (f : Addr) (cdv : Value) (A : Around) (outer : List PySem.Env) (s : Shared) (H : Hp) (E : XK), Cm G (XO G P w mg base N q scope f cdv A outer s H E) (WD E) k → DSs G (XO G P w mg base N q scope f cdv A outer s H E) (WD E) body b
theorem def_ok (hpr : P = G.pr) (hwd : w = G.wd) (F : FunD G.K x q params body scope [] [] f fd) (S : FnScope N ps scope) (hb : BodyOk G P w mg base N q scope k body b) : FnOk P w G.K mg base (L2.CX P w) (k + 1) f fd ps (spOf G ps.length (defG N.length ps.length b)) := by
  refine F.ok S (fun vs H Q E h => ?_) (fun cdv A outer s H vs Q E hr h => ⟨rdS G (WD E) b, (hb f cdv A outer s H E ⟨rfl, rfl, hpr, hwd, hr, takes_of rfl rfl rfl rfl⟩).ps, ?_⟩)
  · obtain ⟨ds, st, α, hl, _, r, _⟩ := h
    rw [← r.len, hl]
  · obtain ⟨ds, st, α, hl, S, r, q⟩ := h
    unfold defG at q
    rw [if_pos hl] at q
    exact ⟨envOf N.length ps.length ds, st, α, by rw [← hl]; exact envOf_ok r, S, leave_post S rfl rfl q⟩
theorem def_okK (hpr : P = G.pr) (hwd : w = G.wd) (F : FunD G.K x q params body scope [] [] f fd) (S : FnScope N ps scope) (hb : BodyOk G P w mg base N q scope k body b) : FnOk P w G.K mg base (L2.CX P w) (k + 1) f fd ps (spOf G ps.length (defK N.length ps.length b)) := by
  refine F.ok S (fun vs H Q E h => ?_) (fun cdv A outer s H vs Q E hr h => ⟨rdS G (WD E) b, (hb f cdv A outer s H E ⟨rfl, rfl, hpr, hwd, hr, takes_of rfl rfl rfl rfl⟩).ps, ?_⟩)
  · obtain ⟨ds, st, α, hl, _, r, _⟩ := h
    rw [← r.len, hl]
  · obtain ⟨ds, st, α, hl, S, r, q⟩ := h
    unfold defK at q
    rw [if_pos hl] at q
    exact ⟨envOf N.length ps.length ds, st, α, by rw [← hl]; exact envOf_ok r, S, leaveK_post rfl q⟩
end
end DL

namespace DL
open PySem PySem.Spec PyProof.Rows L2

/-! ### zip -/
def pairs (xs ys : List D) : List D := (xs.zip ys).map fun p => .ltp [p.1, p.2]
theorem pairs_at {xs ys : List D} {i : Nat} {x0 : D} (e : (pairs xs ys)[i]? = some x0) : ∃ x y, xs[i]? = some x ∧ ys[i]? = some y ∧ x0 = .ltp [x, y] := by
  unfold pairs at e
  rw [List.getElem?_map] at e
  cases h : (xs.zip ys)[i]? with
  | none => rw [h] at e; cases e
  | some p =>
    rw [h] at e
    cases e
    obtain ⟨x, y⟩ := p
    obtain ⟨h1, h2⟩ := List.getElem?_zip_eq_some.mp h
    exact ⟨x, y, h1, h2, rfl⟩
section
variable {G : Gm} {W : WX} {X : Cx} {k : Nat} {α : List Addr} {H : Hp} {st : Store}
theorem itok_zipL {a b : Addr} {xs ys : List D} {vs ws : List V} (t : LstAt α H a vs) (r : RepL G.K α H xs vs) (t2 : LstAt α H b ws) (r2 : RepL G.K α H ys ws) : ItOk G (Itz G.K a b) ⟨pairs xs ys, none⟩ α H where
  go := fun i x0 α1 st1 H1 l S _ e => by
    obtain ⟨x, y, ex, ey, rfl⟩ := pairs_at e
    obtain ⟨v, e1, R1⟩ := (r.mono l).get ex
    obtain ⟨w, e2, R2⟩ := (r2.mono l).get ey
    refine ⟨⟨vs, ws, v, w, (t.mono l).seq, (t2.mono l).seq, e1, e2⟩, fun u H' yy => ?_⟩
    obtain ⟨T, v', w', rfl, nT, rfl, f1, f2⟩ := yy
    have q1 := f1 vs (t.mono l).seq
    rw [e1] at q1; cases q1
    have q2 := f2 ws (t2.mono l).seq
    rw [e2] at q2; cases q2
    have lT : Le α1 H1 α1 (upd H1 T (.tup [v, w])) := Le.laid nT
    exact ⟨lT, S.laid nT, T, [v, w], rfl, ⟨S.notIn nT, .inl upd_same⟩, .cons (R1.mono lT) (.cons (R2.mono lT) .nil)⟩
  stop := fun α1 st1 H1 l S _ => ⟨vs, ws, (t.mono l).seq, (t2.mono l).seq, by
    have := r.len; have := r2.len
    simp only [pairs, List.length_map, List.length_zip]; omega⟩
theorem itok_zipT {a b : Addr} {xs ys : List D} {vs ws : List V} (t : TupAt G.K α H a vs) (r : RepL G.K α H xs vs) (t2 : TupAt G.K α H b ws) (r2 : RepL G.K α H ys ws) : ItOk G (RZ.ItzT G.K a b) ⟨pairs xs ys, none⟩ α H where
  go := fun i x0 α1 st1 H1 l S _ e => by
    obtain ⟨x, y, ex, ey, rfl⟩ := pairs_at e
    obtain ⟨v, e1, R1⟩ := (r.mono l).get ex
    obtain ⟨w, e2, R2⟩ := (r2.mono l).get ey
    refine ⟨⟨vs, ws, v, w, (t.mono l).seq, (t2.mono l).seq, e1, e2⟩, fun u H' yy => ?_⟩
    obtain ⟨T, v', w', rfl, nT, rfl, f1, f2⟩ := yy
    have q1 := f1 vs (t.mono l).seq
    rw [e1] at q1; cases q1
    have q2 := f2 ws (t2.mono l).seq
    rw [e2] at q2; cases q2
    have lT : Le α1 H1 α1 (upd H1 T (.tup [v, w])) := Le.laid nT
    exact ⟨lT, S.laid nT, T, [v, w], rfl, ⟨S.notIn nT, .inl upd_same⟩, .cons (R1.mono lT) (.cons (R2.mono lT) .nil)⟩
  stop := fun α1 st1 H1 l S _ => ⟨vs, ws, (t.mono l).seq, (t2.mono l).seq, by
    have := r.len; have := r2.len
    simp only [pairs, List.length_map, List.length_zip]; omega⟩
def zipD (ds : List D) : Option ItD := match ds with
  | [.tup xs, .tup ys] => some ⟨pairs xs ys, none⟩
  | [.lst xs, .lst ys] => some ⟨pairs xs ys, none⟩
  | _ => none
def zipE (f : DenL) : DenI := fun ρ st => (f ρ st).bind fun ds s => Res.of (zipD ds) s
theorem di_zip {e e2 : Expr} {f : DenL} {p pos tpos : Pos} {elts : List Expr} {kk : Nat} (C : Cm G X W k) (hg : Gl X "zip") (hm : X.mg "zip" = none) (ha : DA G X W [e, e2] f)
    (hs : starEach [e, e2] X.env = (false, eval e X.env) :: starEach [e2] X.env := by rfl) (hpl : (backTo pos (starEach [e2] X.env)).any (·.1) = false := by rfl) : DI G X W (.Tuple elts kk tpos) (.Call (.Name "zip" p) [e, e2] [] pos) (zipE f) := by
  refine ⟨(RZ.pi_zipA hg hm ha.pa hs hpl).imp ?_⟩
  intro σ H Q hq
  obtain ⟨ρ, st, α, E, S, q⟩ := hq
  refine ⟨ρ, st, α, E, S, (post.step (rp := RepL G.K) q).imp fun vs H1 ⟨ds, s1, α1, l, S1, R, q⟩ => ?_⟩
  unfold zipD at q
  rw [C.K]
  split at q
  · rename_i xs ys
    obtain ⟨v, w, rfl, r1, r2⟩ := R.two
    obtain ⟨a, us, rfl, t1, q1⟩ := r1.tupOf
    obtain ⟨b, ws, rfl, t2, q2⟩ := r2.tupOf
    exact ⟨a, b, us, ws, rfl, .inr ⟨t1.seq, t2.seq, q _ α1 H1 .refl S1 (itok_zipT t1 q1 t2 q2)⟩⟩
  · rename_i xs ys
    obtain ⟨v, w, rfl, r1, r2⟩ := R.two
    obtain ⟨a, us, rfl, t1, q1⟩ := (show ∃ a us, v = V.ref a ∧ LstAt α1 H1 a us ∧ RepL G.K α1 H1 xs us from r1)
    obtain ⟨b, ws, rfl, t2, q2⟩ := (show ∃ a us, w = V.ref a ∧ LstAt α1 H1 a us ∧ RepL G.K α1 H1 ys us from r2)
    exact ⟨a, b, us, ws, rfl, .inl ⟨t1.seq, t2.seq, q _ α1 H1 .refl S1 (itok_zipL t1 q1 t2 q2)⟩⟩
  · exact q.elim
end
end DL

namespace DL
open PySem PySem.Spec PyProof.Rows L2

/-! ### a def's data; built-ins as the generator names them -/
structure Dfn (G : Gm) (mg : Str → Option Value) (x : Str) (st : Stmt) : Prop where
  ex : ∃ (f : Addr) (fd : FuncData), mg x = some (.ref f) ∧ FunD G.K x x (defArgs st) (defBody st) (defScope st) [] [] f fd
theorem Dfn.cal {G : Gm} {P : Program} {w : World} {mg : Str → Option Value} {base : Heap} {k : Nat} {x : Str} {st : Stmt} {N ps : List Str} {b : DenS} (B : Bl G P w mg) (D : Dfn G mg x st) (S : FnScope N ps (defScope st))
    (hbind : ∀ (kV doc pm : Value) (an : Option Addr) (cdv ct : Value) (us : List Value), us.length = ps.length → bindArgs (PySem.W.fnOf x x (defArgs st) (defBody st) (defScope st) .none kV doc pm an cdv ct) ⟨us, []⟩ = pure (ps.zip us))
    (hb : BodyOk G P w mg base N x (defScope st) k (defBody st) b) : Cal G P w mg base (k + 1) x ps.length (defG N.length ps.length b) := by
  obtain ⟨f, fd, h1, F⟩ := D.ex
  exact ⟨f, fd, ps, rfl, h1, F.kp, F.bindsN hbind, def_ok B.pr B.wd F S hb⟩
theorem Dfn.calK {G : Gm} {P : Program} {w : World} {mg : Str → Option Value} {base : Heap} {k : Nat} {x : Str} {st : Stmt} {N ps : List Str} {b : DenS} (B : Bl G P w mg) (D : Dfn G mg x st) (S : FnScope N ps (defScope st))
    (hbind : ∀ (kV doc pm : Value) (an : Option Addr) (cdv ct : Value) (us : List Value), us.length = ps.length → bindArgs (PySem.W.fnOf x x (defArgs st) (defBody st) (defScope st) .none kV doc pm an cdv ct) ⟨us, []⟩ = pure (ps.zip us))
    (hb : BodyOk G P w mg base N x (defScope st) k (defBody st) b) : Cal G P w mg base (k + 1) x ps.length (defK N.length ps.length b) := by
  obtain ⟨f, fd, h1, F⟩ := D.ex
  exact ⟨f, fd, ps, rfl, h1, F.kp, F.bindsN hbind, def_okK B.pr B.wd F S hb⟩
theorem bt_int : bootBuiltins "int" = some (.type "int") := by decide +kernel
theorem bt_bool : bootBuiltins "bool" = some (.type "bool") := by decide +kernel
theorem bt_str : bootBuiltins "str" = some (.type "str") := by decide +kernel
theorem bt_tuple : bootBuiltins "tuple" = some (.type "tuple") := by decide +kernel
theorem bt_list : bootBuiltins "list" = some (.type "list") := by decide +kernel
theorem bt_len : bootBuiltins "len" = some (.builtin "len") := by decide +kernel
theorem bt_abs : bootBuiltins "abs" = some (.builtin "abs") := by decide +kernel
theorem bt_sum : bootBuiltins "sum" = some (.builtin "sum") := by decide +kernel
theorem bt_max : bootBuiltins "max" = some (.builtin "max") := by decide +kernel
theorem bt_min : bootBuiltins "min" = some (.builtin "min") := by decide +kernel
theorem bt_all : bootBuiltins "all" = some (.builtin "all") := by decide +kernel
theorem bt_range : bootBuiltins "range" = some (.type "range") := by decide +kernel
section
variable {G : Gm} {W : WX} {X : Cx} {k : Nat} {e o : Expr} {es : List Expr} {f : Den} {g : DenL} {p pos apos cpos : Pos}
theorem dc_len (C : Cm G X W k) (hm : X.mg "len" = none) (ha : DA G X W (e :: es) g) (hg : Gl X "len" := by rfl) (he : starEach (e :: es) X.env = (false, eval e X.env) :: starEach es X.env := by rfl) (hpl : (backTo pos (starEach es X.env)).any (·.1) = false := by rfl) :
    DE G X W (.Call (.Name "len" p) (e :: es) [] pos) (opL lenO g) := de_callB (cr_len C) hg hm bt_len ha (he := he) (hpl := hpl)
theorem dc_abs (C : Cm G X W k) (hm : X.mg "abs" = none) (ha : DA G X W (e :: es) g) (hg : Gl X "abs" := by rfl) (he : starEach (e :: es) X.env = (false, eval e X.env) :: starEach es X.env := by rfl) (hpl : (backTo pos (starEach es X.env)).any (·.1) = false := by rfl) :
    DE G X W (.Call (.Name "abs" p) (e :: es) [] pos) (opL absO g) := de_callB cr_abs hg hm bt_abs ha (he := he) (hpl := hpl)
theorem dc_sum (C : Cm G X W k) (hm : X.mg "sum" = none) (ha : DA G X W (e :: es) g) (hg : Gl X "sum" := by rfl) (he : starEach (e :: es) X.env = (false, eval e X.env) :: starEach es X.env := by rfl) (hpl : (backTo pos (starEach es X.env)).any (·.1) = false := by rfl) :
    DE G X W (.Call (.Name "sum" p) (e :: es) [] pos) (opL sumO g) := de_callB (cr_sumD C) hg hm bt_sum ha (he := he) (hpl := hpl)
theorem dc_max (C : Cm G X W k) (hm : X.mg "max" = none) (ha : DA G X W (e :: es) g) (hg : Gl X "max" := by rfl) (he : starEach (e :: es) X.env = (false, eval e X.env) :: starEach es X.env := by rfl) (hpl : (backTo pos (starEach es X.env)).any (·.1) = false := by rfl) :
    DE G X W (.Call (.Name "max" p) (e :: es) [] pos) (opL maxO g) := de_callB (cr_maxD C) hg hm bt_max ha (he := he) (hpl := hpl)
theorem dc_min (C : Cm G X W k) (hm : X.mg "min" = none) (ha : DA G X W (e :: es) g) (hg : Gl X "min" := by rfl) (he : starEach (e :: es) X.env = (false, eval e X.env) :: starEach es X.env := by rfl) (hpl : (backTo pos (starEach es X.env)).any (·.1) = false := by rfl) :
    DE G X W (.Call (.Name "min" p) (e :: es) [] pos) (opL minO g) := de_callB (cr_minD C) hg hm bt_min ha (he := he) (hpl := hpl)
theorem dc_all (C : Cm G X W k) (hm : X.mg "all" = none) (ha : DA G X W (e :: es) g) (hg : Gl X "all" := by rfl) (he : starEach (e :: es) X.env = (false, eval e X.env) :: starEach es X.env := by rfl) (hpl : (backTo pos (starEach es X.env)).any (·.1) = false := by rfl) :
    DE G X W (.Call (.Name "all" p) (e :: es) [] pos) (opL allO g) := de_callB (cr_allD C) hg hm bt_all ha (he := he) (hpl := hpl)
theorem dc_int (C : Cm G X W k) (hm : X.mg "int" = none) (ha : DA G X W (e :: es) g) (hg : Gl X "int" := by rfl) (he : starEach (e :: es) X.env = (false, eval e X.env) :: starEach es X.env := by rfl) (hpl : (backTo pos (starEach es X.env)).any (·.1) = false := by rfl) :
    DE G X W (.Call (.Name "int" p) (e :: es) [] pos) (opL intO g) := de_callTy cr_int hg hm bt_int ha (he := he) (hpl := hpl)
theorem dc_tuple (C : Cm G X W k) (hm : X.mg "tuple" = none) (ha : DA G X W (e :: es) g) (hg : Gl X "tuple" := by rfl) (he : starEach (e :: es) X.env = (false, eval e X.env) :: starEach es X.env := by rfl) (hpl : (backTo pos (starEach es X.env)).any (·.1) = false := by rfl) :
    DE G X W (.Call (.Name "tuple" p) (e :: es) [] pos) (opL tupleO g) := de_callTy (cr_tupleD C) hg hm bt_tuple ha (he := he) (hpl := hpl)
theorem dc_list (C : Cm G X W k) (hm : X.mg "list" = none) (ha : DA G X W (e :: es) g) (hg : Gl X "list" := by rfl) (he : starEach (e :: es) X.env = (false, eval e X.env) :: starEach es X.env := by rfl) (hpl : (backTo pos (starEach es X.env)).any (·.1) = false := by rfl) :
    DE G X W (.Call (.Name "list" p) (e :: es) [] pos) (opL listO g) := de_callTy (cr_listD C) hg hm bt_list ha (he := he) (hpl := hpl)
theorem dm_append (C : Cm G X W k) (ho : DE G X W o f) (ha : DA G X W (e :: es) g)
    (hbase : attributeBase o "append" X.env (eval o X.env) = eval o X.env := by rfl)
    (hfew : ((backTo cpos (starEach (e :: es) X.env)).all (fun x => !x.1) && (backToKw cpos (keywordEach [] X.env)).all (fun x => x.1.isSome)
      && decide ((e :: es).length + ([] : List Keyword).length + (if ([] : List Keyword).isEmpty then 0 else 1) < 30)) = true := by rfl)
    (hline : (apos.endLine == cpos.line) = true := by rfl) (hs : starEach (e :: es) X.env = (false, eval e X.env) :: starEach es X.env := by rfl) (hplain : (backTo cpos (starEach es X.env)).any (·.1) = false := by rfl) :
    DE G X W (.Call (.Attribute o "append" apos) (e :: es) [] cpos) (mdE appO f g) := de_md C slot_list_append type_list_append md_app ho ha hbase hfew hline hs hplain
end
/-! len(range(..)) -/
def rngB (i : Int) : Bool := decide (-(2 ^ 30) < i ∧ i < 2 ^ 30)
def lenRangeO : OL := fun ds _ => match ds with
  | [.int i, .int j, .int c] => if rngB i && rngB j && rngB c && decide (c ≠ 0) then some (.int (Builtin.Range.rangeSize i j c)) else none
  | _ => none
theorem size_fits {i j c : Int} (h : (rngB i && rngB j && rngB c && decide (c ≠ 0)) = true) : c ≠ 0 ∧ c.natAbs < 1073741824 ∧ Builtin.Range.rangeSize i j c = ((Builtin.Range.rangeSize i j c).toNat : Int) ∧ (((Builtin.Range.rangeSize i j c).toNat : Int) < 2 ^ 63) := by
  simp only [rngB, Bool.and_eq_true, decide_eq_true_eq] at h
  have h1 := PyProof.Rows.rangeSize_toNat i j c
  have h2 := PyProof.Rows.rangeSize_toNat_le i j c
  refine ⟨h.2, by omega, h1, by omega⟩
section
variable {G : Gm} {W : WX} {X : Cx} {k : Nat} {a b c : Expr} {g : DenL} {p p2 q pos : Pos}
theorem de_lenRange (C : Cm G X W k) (hg : Gl X "len") (hm : X.mg "len" = none) (hg2 : Gl X "range") (hm2 : X.mg "range" = none) (ha : DA G X W [a, b, c] g)
    (hs : starEach [a, b, c] X.env = (false, eval a X.env) :: starEach [b, c] X.env := by rfl) (hpl : (backTo q (starEach [b, c] X.env)).any (·.1) = false := by rfl) (ho : starEach [.Call (.Name "range" p2) [a, b, c] [] q] X.env = (false, eval (.Call (.Name "range" p2) [a, b, c] [] q) X.env) :: starEach [] X.env := by rfl) :
    DE G X W (.Call (.Name "len" p) [.Call (.Name "range" p2) [a, b, c] [] q] [] pos) (opL lenRangeO g) := by
  refine ⟨⟨fun pins s σ H Q I hq => ?_⟩⟩
  obtain ⟨ρ, st, α, E, S, hq⟩ := hq
  refine Call_ (ld_blt I hg hm bt_len (PyProof.Rows.callWith_builtin1 (PyProof.Rows.args_cons ?_ ho) ho rfl))
  refine Call_ (ld_blt I hg2 hm2 bt_range (PyProof.Rows.callWith_type1 (thn (ha.pa.run q pins s σ H _ I ⟨ρ, st, α, E, S, post.step (rp := RepL G.K) hq⟩) fun us s1 ⟨vs, H1, I1, r1, ds, s2, α1, l, S1, R, w⟩ => ?_) hs hpl))
  have g := got.of w
  unfold lenRangeO at g
  split at g
  · rename_i i j d
    split at g
    · rename_i hh
      obtain ⟨h1, h2, h3, h4⟩ := size_fits hh
      obtain ⟨v, vs', rfl, e1, R⟩ := (show ∃ v r, vs = v :: r ∧ Rep G.K α1 H1 (.int i) v ∧ RepL G.K α1 H1 [.int j, .int d] r from R)
      obtain ⟨v2, v3, rfl, e2, e3⟩ := R.two
      cases (show v = V.int i from e1)
      cases (show v2 = V.int j from e2)
      cases (show v3 = V.int d from e3)
      cases r1 with
      | cons r rr =>
        cases rr with
        | cons r' rr =>
          cases rr with
          | cons r'' rr =>
            cases rr
            obtain ⟨t, rfl⟩ := r
            obtain ⟨t', rfl⟩ := r'
            obtain ⟨t'', rfl⟩ := r''
            refine call_range_3 h1 ?_ (.inl (PyProof.noPylong_small h2))
            refine PyProof.Rows.args_nil ?_
            refine call_len_range (IsRange.new ..) h3 h4 ?_
            refine ⟨.int (Builtin.Range.rangeSize i j d).toNat, H1, I1.kept (t' := s1.toks + 1 + 1) (fun b o e => Heap.get?_push_of_some _ e), ⟨_, rfl⟩, ?_⟩
            rw [← h3]
            exact got.here (d := .int _) S1 rfl g
    · exact g.elim
  · exact g.elim
end
end DL

namespace DL
open PySem PySem.Spec PyProof.Rows L2

theorem dfn_of {G : Gm} {h : Heap} {mg : Str → Option Value} {x : Str} {st : Stmt} (X : G.K.In h) (N : h.Ns mainGlobals mg) (c : (He.Fa.glo x).ok G.K = true)
    (d : ∃ fd, FunD G.K x x (defArgs st) (defBody st) (defScope st) [] [] (He.ga G.K x) fd) : Dfn G mg x st :=
  let ⟨fd, F⟩ := d
  ⟨_, fd, He.glo_ok X N c, F⟩
/-- a def that is never walked -/
theorem Dfn.none {G : Gm} {P : Program} {w : World} {mg : Str → Option Value} {base : Heap} {k : Nat} {x : Str} {st : Stmt} {N ps : List Str} (D : Dfn G mg x st) (S : FnScope N ps (defScope st))
    (hbind : ∀ (kV doc pm : Value) (an : Option Addr) (cdv ct : Value) (us : List Value), us.length = ps.length → bindArgs (PySem.W.fnOf x x (defArgs st) (defBody st) (defScope st) .none kV doc pm an cdv ct) ⟨us, []⟩ = pure (ps.zip us)) :
    Cal G P w mg base (k + 1) x ps.length (fun _ _ => .stuck) := by
  obtain ⟨f, fd, h1, F⟩ := D.ex
  refine ⟨f, fd, ps, rfl, h1, F.kp, F.bindsN hbind, ?_⟩
  have nope : ∀ vs H Q E, spOf G ps.length (fun _ _ => .stuck) vs H Q E → False := fun vs H Q E h => by
    obtain ⟨ds, st, α, _, _, _, p⟩ := h
    exact p
  exact (F.ok (k := 0) S (fun vs H Q E h => (nope vs H Q E h).elim) (fun cdv A outer s H vs Q E hr h => (nope vs H Q E h).elim)).mono (Nat.succ_le_succ (Nat.zero_le _))
/-- a def that calls itself -/
theorem cal_rec {G : Gm} {P : Program} {w : World} {mg : Str → Option Value} {base : Heap} {x : Str} {f : Nat → Fn} {F : Fn → Fn} {st : Stmt} {N ps : List Str} (j : Nat) (D : Dfn G mg x st) (S : FnScope N ps (defScope st))
    (hbind : ∀ (kV doc pm : Value) (an : Option Addr) (cdv ct : Value) (us : List Value), us.length = ps.length → bindArgs (PySem.W.fnOf x x (defArgs st) (defBody st) (defScope st) .none kV doc pm an cdv ct) ⟨us, []⟩ = pure (ps.zip us))
    (h0 : f 0 = fun _ _ => .stuck) (hs : ∀ i, f (i + 1) = F (f i)) (step : ∀ k, j ≤ k → ∀ rec, Cal G P w mg base k x ps.length rec → Cal G P w mg base (k + 1) x ps.length (F rec)) : ∀ i, Cal G P w mg base (j + 1 + i) x ps.length (f i)
  | 0 => by rw [h0]; exact D.none S hbind
  | i + 1 => by rw [hs]; exact step (j + 1 + i) (by omega) _ (cal_rec j D S hbind h0 hs step i)
theorem scr_of {K : PySem.W.Frag} {H : Hp} {a : Addr} {ns : List Int} (h : SqL K H a (ns.map V.int)) : Rep K [] H (.scr ns) (.ref a) :=
  ⟨a, rfl, h.elim (fun h => .inl ⟨by simp, h⟩) .inr⟩
theorem sr_nil {G : Gm} {H : Hp} : SR G [] [] H := ⟨rfl, List.nodup_nil, fun n a c e => by simp at e⟩
/-- what the law's call gives, for the row -/
theorem sp_law {G : Gm} {g : Fn} {H : Hp} {a : Addr} {ns : List Int} {E : XK} (hS : SqL G.K H a (ns.map V.int)) (e : g [.scr ns] [] = .ok (.bl true) []) : spOf G 1 g [.ref a] H (fun v _ => v = .bl true) E := by
  refine ⟨[.scr ns], [], [], rfl, sr_nil, .cons (scr_of hS) .nil, ?_⟩
  rw [e]
  exact fun v α H' _ _ r => r
/-- THE END of a law -/
theorem walk_law {l : PySem.W.OpenLaw} {n k : Nat} {q : Program} {loose : List Str} {XP : (Str → Option Value) → Heap → Prop} {YP : World → Heap → Prop} {d : DefRec} {x : Str} {st : Stmt} {N : List Str} {b : DenS}
    (hn : l.most = some n) (hn2 : n ≤ sizeLine) (hdf : d.params.defaults = []) (hd : d.name = "law") (hr : Room (k + 1) callerA) (S : FnScope N [x] (defScope st))
    (hbind : ∀ (kV doc pm : Value) (an : Option Addr) (cdv ct : Value) (us : List Value), us.length = 1 → bindArgs (PySem.W.fnOf "law" "law" (defArgs st) (defBody st) (defScope st) .none kV doc pm an cdv ct) ⟨us, []⟩ = pure ([x].zip us))
    (F : ∀ (w : World) (mg : Str → Option Value) (h : Heap), YP w h → h.Ns mainGlobals mg → ∃ G : Gm, G.K.In h ∧ l.prog = G.pr ∧ w = G.wd ∧ Dfn G mg "law" st ∧ ∀ base : Heap, G.K.In base → base.Ns mainGlobals mg → BodyOk G l.prog w mg base N "law" (defScope st) k (defBody st) b)
    (T : ∀ ns : List Int, ns.length ≤ n → defG N.length 1 b [.scr ns] [] = .ok (.bl true) []) : PySem.W.WalkO q loose XP YP l.row.toRowW d [] (fun f vs => PySem.call f vs) := by
  refine Att.attach_call hn hdf fun w s₀ s₁ mg mb fa o pm cd doc a vs ns Gd Y ho hd' hcd hmg hobj hints hlen hg => ?_
  obtain ⟨G, KX, hpr, hwd, ⟨f, fd, e1, D⟩, hB⟩ := F w mg _ Y Gd.T.g
  rw [hd, e1] at hmg
  cases hmg
  have hsp : ∀ H : Hp, Only H → SqL G.K H a (ns.map V.int) → spOf G [x].length (defG N.length [x].length b) [.ref a] H (fun v _ => v = .bl true) fun _ _ _ => False := fun H _ hS => sp_law hS (T ns hlen)
  refine law_call KX Gd.T.g Gd.T.b Gd.T.builtins Gd.T.nolimit hg hobj hints (Nat.le_trans hlen hn2) hr (CX := L2.CX l.prog w) (fun base h1 h2 => def_ok hpr hwd D S (hB base h1 h2)) (fun s v => FunD.bindsA (ps := [x]) D hbind s [v] rfl) hsp fun H e s' => ?_
  rintro ⟨_, _, _, _, _, _, _, _, _, _, _, _, z⟩
  exact z
end DL

namespace DL
open PySem PySem.Spec PyProof.Rows L2

/-! ### reckoning with denotations -/
@[simp] theorem size_line : sizeLine = 16777216 := by rw [sizeLine_eq]
section
variable {A B : Type} {a : A} {s st : Store} {ρ : Env} {c : Str}
@[simp] theorem bind_ok' (k : A → Store → Res B) : (Res.ok a s).bind k = k a s := Eq.trans rfl rfl
@[simp] theorem bind_exc' (k : A → Store → Res B) : (Res.exc c s : Res A).bind k = .exc c s := Eq.trans rfl rfl
@[simp] theorem bind_stuck' (k : A → Store → Res B) : (Res.stuck : Res A).bind k = .stuck := Eq.trans rfl rfl
@[simp] theorem of_some : Res.of (some a) s = .ok a s := Eq.trans rfl rfl
@[simp] theorem of_none : Res.of (none : Option A) s = .stuck := Eq.trans rfl rfl
@[simp] theorem then_ok (k : A → Store → Out) : thenO (.ok a s) ρ k = k a s := Eq.trans rfl rfl
@[simp] theorem then_exc (k : A → Store → Out) : thenO (.exc c s : Res A) ρ k = .exc c ρ s := Eq.trans rfl rfl
@[simp] theorem then_stuck (k : A → Store → Out) : thenO (.stuck : Res A) ρ k = .stuck := Eq.trans rfl rfl
@[simp] theorem seq_next (k : Env → Store → Out) : seqO (.next ρ s) k = k ρ s := Eq.trans rfl rfl
@[simp] theorem seq_ret {d : D} (k : Env → Store → Out) : seqO (.ret d s) k = .ret d s := Eq.trans rfl rfl
@[simp] theorem seq_brk (k : Env → Store → Out) : seqO (.brk ρ s) k = .brk ρ s := Eq.trans rfl rfl
@[simp] theorem seq_cont (k : Env → Store → Out) : seqO (.cont ρ s) k = .cont ρ s := Eq.trans rfl rfl
@[simp] theorem seq_exc (k : Env → Store → Out) : seqO (.exc c ρ s) k = .exc c ρ s := Eq.trans rfl rfl
@[simp] theorem seq_stuck (k : Env → Store → Out) : seqO .stuck k = .stuck := Eq.trans rfl rfl
@[simp] theorem tgt_some (k : Env → Out) : tgtO (some ρ) k = k ρ := Eq.trans rfl rfl
@[simp] theorem tgt_none (k : Env → Out) : tgtO none k = .stuck := Eq.trans rfl rfl
@[simp] theorem tgtR_some (k : Env → Res A) : tgtR (some ρ) k = k ρ := Eq.trans rfl rfl
@[simp] theorem noX_ok : noX (.ok a s) = .ok a s := Eq.trans rfl rfl
@[simp] theorem turn_next {ks : List Nat} (k : Env → Store → Out) : turnO ks (.next ρ s) k = k (killE ks ρ) s := Eq.trans rfl rfl
@[simp] theorem turn_cont {ks : List Nat} (k : Env → Store → Out) : turnO ks (.cont ρ s) k = k (killE ks ρ) s := Eq.trans rfl rfl
@[simp] theorem turn_brk {ks : List Nat} (k : Env → Store → Out) : turnO ks (.brk ρ s) k = .next (killE ks ρ) s := Eq.trans rfl rfl
@[simp] theorem turn_ret {ks : List Nat} {d : D} (k : Env → Store → Out) : turnO ks (.ret d s) k = .ret d s := Eq.trans rfl rfl
@[simp] theorem turn_exc {ks : List Nat} (k : Env → Store → Out) : turnO ks (.exc c ρ s) k = .exc c ρ s := Eq.trans rfl rfl
@[simp] theorem turn_stuck {ks : List Nat} (k : Env → Store → Out) : turnO ks .stuck k = .stuck := Eq.trans rfl rfl
@[simp] theorem kill_nil : killE [] ρ = ρ := Eq.trans rfl rfl
@[simp] theorem kill_cons {i : Nat} {r : List Nat} : killE (i :: r) ρ = killE r (ρ.set i none) := Eq.trans rfl rfl
end
/-! two ways that join again -/
section
variable {c : Prop} [Decidable c] {A : Type}
@[simp] theorem ite_okk {a b : A} {s t : Store} : (if c then Res.ok a s else Res.ok b t) = Res.ok (if c then a else b) (if c then s else t) := by split <;> rfl
@[simp] theorem ite_nextt {a b : Env} {s t : Store} : (if c then Out.next a s else Out.next b t) = Out.next (if c then a else b) (if c then s else t) := by split <;> rfl
@[simp] theorem ite_rett {a b : D} {s t : Store} : (if c then Out.ret a s else Out.ret b t) = Out.ret (if c then a else b) (if c then s else t) := by split <;> rfl
@[simp] theorem ite_intt {a b : Int} : (if c then D.int a else D.int b) = D.int (if c then a else b) := by split <;> rfl
@[simp] theorem ite_bll {a b : Bool} : (if c then D.bl a else D.bl b) = D.bl (if c then a else b) := by split <;> rfl
@[simp] theorem ite_somee {a b : A} : (if c then some a else some b) = some (if c then a else b) := by split <;> rfl
@[simp] theorem ite_conss {a b : A} {l m : List A} : (if c then a :: l else b :: m) = (if c then a else b) :: (if c then l else m) := by split <;> rfl
end
/-! places -/
section
variable {A : Type} {a0 a1 a2 a3 a4 a5 a6 a7 a8 a9 a10 a11 a12 a13 a14 a15 a16 a17 a18 a19 a20 a21 a22 a23 a24 a25 b : A} {l : List A}
@[simp] theorem get_0 : (a0 :: l)[0]? = some a0 := Eq.trans rfl rfl
@[simp] theorem set_0 : (a0 :: l).set 0 b = b :: l := Eq.trans rfl rfl
@[simp] theorem get_1 : (a0 :: a1 :: l)[1]? = some a1 := Eq.trans rfl rfl
@[simp] theorem set_1 : (a0 :: a1 :: l).set 1 b = a0 :: b :: l := Eq.trans rfl rfl
@[simp] theorem get_2 : (a0 :: a1 :: a2 :: l)[2]? = some a2 := Eq.trans rfl rfl
@[simp] theorem set_2 : (a0 :: a1 :: a2 :: l).set 2 b = a0 :: a1 :: b :: l := Eq.trans rfl rfl
@[simp] theorem get_3 : (a0 :: a1 :: a2 :: a3 :: l)[3]? = some a3 := Eq.trans rfl rfl
@[simp] theorem set_3 : (a0 :: a1 :: a2 :: a3 :: l).set 3 b = a0 :: a1 :: a2 :: b :: l := Eq.trans rfl rfl
@[simp] theorem get_4 : (a0 :: a1 :: a2 :: a3 :: a4 :: l)[4]? = some a4 := Eq.trans rfl rfl
@[simp] theorem set_4 : (a0 :: a1 :: a2 :: a3 :: a4 :: l).set 4 b = a0 :: a1 :: a2 :: a3 :: b :: l := Eq.trans rfl rfl
@[simp] theorem get_5 : (a0 :: a1 :: a2 :: a3 :: a4 :: a5 :: l)[5]? = some a5 := Eq.trans rfl rfl
@[simp] theorem set_5 : (a0 :: a1 :: a2 :: a3 :: a4 :: a5 :: l).set 5 b = a0 :: a1 :: a2 :: a3 :: a4 :: b :: l := Eq.trans rfl rfl
@[simp] theorem get_6 : (a0 :: a1 :: a2 :: a3 :: a4 :: a5 :: a6 :: l)[6]? = some a6 := Eq.trans rfl rfl
@[simp] theorem set_6 : (a0 :: a1 :: a2 :: a3 :: a4 :: a5 :: a6 :: l).set 6 b = a0 :: a1 :: a2 :: a3 :: a4 :: a5 :: b :: l := Eq.trans rfl rfl
@[simp] theorem get_7 : (a0 :: a1 :: a2 :: a3 :: a4 :: a5 :: a6 :: a7 :: l)[7]? = some a7 := Eq.trans rfl rfl
@[simp] theorem set_7 : (a0 :: a1 :: a2 :: a3 :: a4 :: a5 :: a6 :: a7 :: l).set 7 b = a0 :: a1 :: a2 :: a3 :: a4 :: a5 :: a6 :: b :: l := Eq.trans rfl rfl
@[simp] theorem get_8 : (a0 :: a1 :: a2 :: a3 :: a4 :: a5 :: a6 :: a7 :: a8 :: l)[8]? = some a8 := Eq.trans rfl rfl
@[simp] theorem set_8 : (a0 :: a1 :: a2 :: a3 :: a4 :: a5 :: a6 :: a7 :: a8 :: l).set 8 b = a0 :: a1 :: a2 :: a3 :: a4 :: a5 :: a6 :: a7 :: b :: l := Eq.trans rfl rfl
@[simp] theorem get_9 : (a0 :: a1 :: a2 :: a3 :: a4 :: a5 :: a6 :: a7 :: a8 :: a9 :: l)[9]? = some a9 := Eq.trans rfl rfl
@[simp] theorem set_9 : (a0 :: a1 :: a2 :: a3 :: a4 :: a5 :: a6 :: a7 :: a8 :: a9 :: l).set 9 b = a0 :: a1 :: a2 :: a3 :: a4 :: a5 :: a6 :: a7 :: a8 :: b :: l := Eq.trans rfl rfl
@[simp] theorem get_10 : (a0 :: a1 :: a2 :: a3 :: a4 :: a5 :: a6 :: a7 :: a8 :: a9 :: a10 :: l)[10]? = some a10 := Eq.trans rfl rfl
@[simp] theorem set_10 : (a0 :: a1 :: a2 :: a3 :: a4 :: a5 :: a6 :: a7 :: a8 :: a9 :: a10 :: l).set 10 b = a0 :: a1 :: a2 :: a3 :: a4 :: a5 :: a6 :: a7 :: a8 :: a9 :: b :: l := Eq.trans rfl rfl
@[simp] theorem get_11 : (a0 :: a1 :: a2 :: a3 :: a4 :: a5 :: a6 :: a7 :: a8 :: a9 :: a10 :: a11 :: l)[11]? = some a11 := Eq.trans rfl rfl
@[simp] theorem set_11 : (a0 :: a1 :: a2 :: a3 :: a4 :: a5 :: a6 :: a7 :: a8 :: a9 :: a10 :: a11 :: l).set 11 b = a0 :: a1 :: a2 :: a3 :: a4 :: a5 :: a6 :: a7 :: a8 :: a9 :: a10 :: b :: l := Eq.trans rfl rfl
@[simp] theorem get_12 : (a0 :: a1 :: a2 :: a3 :: a4 :: a5 :: a6 :: a7 :: a8 :: a9 :: a10 :: a11 :: a12 :: l)[12]? = some a12 := Eq.trans rfl rfl
@[simp] theorem set_12 : (a0 :: a1 :: a2 :: a3 :: a4 :: a5 :: a6 :: a7 :: a8 :: a9 :: a10 :: a11 :: a12 :: l).set 12 b = a0 :: a1 :: a2 :: a3 :: a4 :: a5 :: a6 :: a7 :: a8 :: a9 :: a10 :: a11 :: b :: l := Eq.trans rfl rfl
@[simp] theorem get_13 : (a0 :: a1 :: a2 :: a3 :: a4 :: a5 :: a6 :: a7 :: a8 :: a9 :: a10 :: a11 :: a12 :: a13 :: l)[13]? = some a13 := Eq.trans rfl rfl
@[simp] theorem set_13 : (a0 :: a1 :: a2 :: a3 :: a4 :: a5 :: a6 :: a7 :: a8 :: a9 :: a10 :: a11 :: a12 :: a13 :: l).set 13 b = a0 :: a1 :: a2 :: a3 :: a4 :: a5 :: a6 :: a7 :: a8 :: a9 :: a10 :: a11 :: a12 :: b :: l := Eq.trans rfl rfl
@[simp] theorem get_14 : (a0 :: a1 :: a2 :: a3 :: a4 :: a5 :: a6 :: a7 :: a8 :: a9 :: a10 :: a11 :: a12 :: a13 :: a14 :: l)[14]? = some a14 := Eq.trans rfl rfl
@[simp] theorem set_14 : (a0 :: a1 :: a2 :: a3 :: a4 :: a5 :: a6 :: a7 :: a8 :: a9 :: a10 :: a11 :: a12 :: a13 :: a14 :: l).set 14 b = a0 :: a1 :: a2 :: a3 :: a4 :: a5 :: a6 :: a7 :: a8 :: a9 :: a10 :: a11 :: a12 :: a13 :: b :: l := Eq.trans rfl rfl
@[simp] theorem get_15 : (a0 :: a1 :: a2 :: a3 :: a4 :: a5 :: a6 :: a7 :: a8 :: a9 :: a10 :: a11 :: a12 :: a13 :: a14 :: a15 :: l)[15]? = some a15 := Eq.trans rfl rfl
@[simp] theorem set_15 : (a0 :: a1 :: a2 :: a3 :: a4 :: a5 :: a6 :: a7 :: a8 :: a9 :: a10 :: a11 :: a12 :: a13 :: a14 :: a15 :: l).set 15 b = a0 :: a1 :: a2 :: a3 :: a4 :: a5 :: a6 :: a7 :: a8 :: a9 :: a10 :: a11 :: a12 :: a13 :: a14 :: b :: l := Eq.trans rfl rfl
@[simp] theorem get_16 : (a0 :: a1 :: a2 :: a3 :: a4 :: a5 :: a6 :: a7 :: a8 :: a9 :: a10 :: a11 :: a12 :: a13 :: a14 :: a15 :: a16 :: l)[16]? = some a16 := Eq.trans rfl rfl
@[simp] theorem set_16 : (a0 :: a1 :: a2 :: a3 :: a4 :: a5 :: a6 :: a7 :: a8 :: a9 :: a10 :: a11 :: a12 :: a13 :: a14 :: a15 :: a16 :: l).set 16 b = a0 :: a1 :: a2 :: a3 :: a4 :: a5 :: a6 :: a7 :: a8 :: a9 :: a10 :: a11 :: a12 :: a13 :: a14 :: a15 :: b :: l := Eq.trans rfl rfl
@[simp] theorem get_17 : (a0 :: a1 :: a2 :: a3 :: a4 :: a5 :: a6 :: a7 :: a8 :: a9 :: a10 :: a11 :: a12 :: a13 :: a14 :: a15 :: a16 :: a17 :: l)[17]? = some a17 := Eq.trans rfl rfl
@[simp] theorem set_17 : (a0 :: a1 :: a2 :: a3 :: a4 :: a5 :: a6 :: a7 :: a8 :: a9 :: a10 :: a11 :: a12 :: a13 :: a14 :: a15 :: a16 :: a17 :: l).set 17 b = a0 :: a1 :: a2 :: a3 :: a4 :: a5 :: a6 :: a7 :: a8 :: a9 :: a10 :: a11 :: a12 :: a13 :: a14 :: a15 :: a16 :: b :: l := Eq.trans rfl rfl
@[simp] theorem get_18 : (a0 :: a1 :: a2 :: a3 :: a4 :: a5 :: a6 :: a7 :: a8 :: a9 :: a10 :: a11 :: a12 :: a13 :: a14 :: a15 :: a16 :: a17 :: a18 :: l)[18]? = some a18 := Eq.trans rfl rfl
@[simp] theorem set_18 : (a0 :: a1 :: a2 :: a3 :: a4 :: a5 :: a6 :: a7 :: a8 :: a9 :: a10 :: a11 :: a12 :: a13 :: a14 :: a15 :: a16 :: a17 :: a18 :: l).set 18 b = a0 :: a1 :: a2 :: a3 :: a4 :: a5 :: a6 :: a7 :: a8 :: a9 :: a10 :: a11 :: a12 :: a13 :: a14 :: a15 :: a16 :: a17 :: b :: l := Eq.trans rfl rfl
@[simp] theorem get_19 : (a0 :: a1 :: a2 :: a3 :: a4 :: a5 :: a6 :: a7 :: a8 :: a9 :: a10 :: a11 :: a12 :: a13 :: a14 :: a15 :: a16 :: a17 :: a18 :: a19 :: l)[19]? = some a19 := Eq.trans rfl rfl
@[simp] theorem set_19 : (a0 :: a1 :: a2 :: a3 :: a4 :: a5 :: a6 :: a7 :: a8 :: a9 :: a10 :: a11 :: a12 :: a13 :: a14 :: a15 :: a16 :: a17 :: a18 :: a19 :: l).set 19 b = a0 :: a1 :: a2 :: a3 :: a4 :: a5 :: a6 :: a7 :: a8 :: a9 :: a10 :: a11 :: a12 :: a13 :: a14 :: a15 :: a16 :: a17 :: a18 :: b :: l := Eq.trans rfl rfl
@[simp] theorem get_20 : (a0 :: a1 :: a2 :: a3 :: a4 :: a5 :: a6 :: a7 :: a8 :: a9 :: a10 :: a11 :: a12 :: a13 :: a14 :: a15 :: a16 :: a17 :: a18 :: a19 :: a20 :: l)[20]? = some a20 := Eq.trans rfl rfl
@[simp] theorem set_20 : (a0 :: a1 :: a2 :: a3 :: a4 :: a5 :: a6 :: a7 :: a8 :: a9 :: a10 :: a11 :: a12 :: a13 :: a14 :: a15 :: a16 :: a17 :: a18 :: a19 :: a20 :: l).set 20 b = a0 :: a1 :: a2 :: a3 :: a4 :: a5 :: a6 :: a7 :: a8 :: a9 :: a10 :: a11 :: a12 :: a13 :: a14 :: a15 :: a16 :: a17 :: a18 :: a19 :: b :: l := Eq.trans rfl rfl
@[simp] theorem get_21 : (a0 :: a1 :: a2 :: a3 :: a4 :: a5 :: a6 :: a7 :: a8 :: a9 :: a10 :: a11 :: a12 :: a13 :: a14 :: a15 :: a16 :: a17 :: a18 :: a19 :: a20 :: a21 :: l)[21]? = some a21 := Eq.trans rfl rfl
@[simp] theorem set_21 : (a0 :: a1 :: a2 :: a3 :: a4 :: a5 :: a6 :: a7 :: a8 :: a9 :: a10 :: a11 :: a12 :: a13 :: a14 :: a15 :: a16 :: a17 :: a18 :: a19 :: a20 :: a21 :: l).set 21 b = a0 :: a1 :: a2 :: a3 :: a4 :: a5 :: a6 :: a7 :: a8 :: a9 :: a10 :: a11 :: a12 :: a13 :: a14 :: a15 :: a16 :: a17 :: a18 :: a19 :: a20 :: b :: l := Eq.trans rfl rfl
@[simp] theorem get_22 : (a0 :: a1 :: a2 :: a3 :: a4 :: a5 :: a6 :: a7 :: a8 :: a9 :: a10 :: a11 :: a12 :: a13 :: a14 :: a15 :: a16 :: a17 :: a18 :: a19 :: a20 :: a21 :: a22 :: l)[22]? = some a22 := Eq.trans rfl rfl
@[simp] theorem set_22 : (a0 :: a1 :: a2 :: a3 :: a4 :: a5 :: a6 :: a7 :: a8 :: a9 :: a10 :: a11 :: a12 :: a13 :: a14 :: a15 :: a16 :: a17 :: a18 :: a19 :: a20 :: a21 :: a22 :: l).set 22 b = a0 :: a1 :: a2 :: a3 :: a4 :: a5 :: a6 :: a7 :: a8 :: a9 :: a10 :: a11 :: a12 :: a13 :: a14 :: a15 :: a16 :: a17 :: a18 :: a19 :: a20 :: a21 :: b :: l := Eq.trans rfl rfl
@[simp] theorem get_23 : (a0 :: a1 :: a2 :: a3 :: a4 :: a5 :: a6 :: a7 :: a8 :: a9 :: a10 :: a11 :: a12 :: a13 :: a14 :: a15 :: a16 :: a17 :: a18 :: a19 :: a20 :: a21 :: a22 :: a23 :: l)[23]? = some a23 := Eq.trans rfl rfl
@[simp] theorem set_23 : (a0 :: a1 :: a2 :: a3 :: a4 :: a5 :: a6 :: a7 :: a8 :: a9 :: a10 :: a11 :: a12 :: a13 :: a14 :: a15 :: a16 :: a17 :: a18 :: a19 :: a20 :: a21 :: a22 :: a23 :: l).set 23 b = a0 :: a1 :: a2 :: a3 :: a4 :: a5 :: a6 :: a7 :: a8 :: a9 :: a10 :: a11 :: a12 :: a13 :: a14 :: a15 :: a16 :: a17 :: a18 :: a19 :: a20 :: a21 :: a22 :: b :: l := Eq.trans rfl rfl
@[simp] theorem get_24 : (a0 :: a1 :: a2 :: a3 :: a4 :: a5 :: a6 :: a7 :: a8 :: a9 :: a10 :: a11 :: a12 :: a13 :: a14 :: a15 :: a16 :: a17 :: a18 :: a19 :: a20 :: a21 :: a22 :: a23 :: a24 :: l)[24]? = some a24 := Eq.trans rfl rfl
@[simp] theorem set_24 : (a0 :: a1 :: a2 :: a3 :: a4 :: a5 :: a6 :: a7 :: a8 :: a9 :: a10 :: a11 :: a12 :: a13 :: a14 :: a15 :: a16 :: a17 :: a18 :: a19 :: a20 :: a21 :: a22 :: a23 :: a24 :: l).set 24 b = a0 :: a1 :: a2 :: a3 :: a4 :: a5 :: a6 :: a7 :: a8 :: a9 :: a10 :: a11 :: a12 :: a13 :: a14 :: a15 :: a16 :: a17 :: a18 :: a19 :: a20 :: a21 :: a22 :: a23 :: b :: l := Eq.trans rfl rfl
@[simp] theorem get_25 : (a0 :: a1 :: a2 :: a3 :: a4 :: a5 :: a6 :: a7 :: a8 :: a9 :: a10 :: a11 :: a12 :: a13 :: a14 :: a15 :: a16 :: a17 :: a18 :: a19 :: a20 :: a21 :: a22 :: a23 :: a24 :: a25 :: l)[25]? = some a25 := Eq.trans rfl rfl
@[simp] theorem set_25 : (a0 :: a1 :: a2 :: a3 :: a4 :: a5 :: a6 :: a7 :: a8 :: a9 :: a10 :: a11 :: a12 :: a13 :: a14 :: a15 :: a16 :: a17 :: a18 :: a19 :: a20 :: a21 :: a22 :: a23 :: a24 :: a25 :: l).set 25 b = a0 :: a1 :: a2 :: a3 :: a4 :: a5 :: a6 :: a7 :: a8 :: a9 :: a10 :: a11 :: a12 :: a13 :: a14 :: a15 :: a16 :: a17 :: a18 :: a19 :: a20 :: a21 :: a22 :: a23 :: a24 :: b :: l := Eq.trans rfl rfl
end
section
variable {s st : Store} {ρ : Env}
def atE (o : Option (Option D)) (st : Store) : Res D := match o with
  | some (some d) => .ok d st
  | _ => .stuck
@[simp] theorem atE_some {d : D} : atE (some (some d)) st = .ok d st := Eq.trans rfl rfl
@[simp] theorem ap_var (i : Nat) : varE i ρ st = atE ρ[i]? st := Eq.trans rfl rfl
@[simp] theorem ap_con (d : D) : conE d ρ st = .ok d st := Eq.trans rfl rfl
@[simp] theorem ap_op2 (o : O2) (f g : Den) : op2 o f g ρ st = (f ρ st).bind fun a s1 => (g ρ s1).bind fun b s2 => Res.of (o a b s2) s2 := Eq.trans rfl rfl
@[simp] theorem ap_op1 (o : O1) (f : Den) : op1 o f ρ st = (f ρ st).bind fun a s1 => Res.of (o a s1) s1 := Eq.trans rfl rfl
@[simp] theorem ap_opL (o : OL) (f : DenL) : opL o f ρ st = (f ρ st).bind fun a s1 => Res.of (o a s1) s1 := Eq.trans rfl rfl
@[simp] theorem ap_tru (f : Den) : tru f ρ st = (f ρ st).bind fun d s => Res.of (truD d s) s := Eq.trans rfl rfl
@[simp] theorem ap_andB (f g : DenB) : andB f g ρ st = (f ρ st).bind fun b s => if b = true then g ρ s else .ok false s := Eq.trans rfl rfl
@[simp] theorem ap_orB (f g : DenB) : orB f g ρ st = (f ρ st).bind fun b s => if b = true then .ok true s else g ρ s := Eq.trans rfl rfl
@[simp] theorem ap_notB (f : DenB) : notB f ρ st = (f ρ st).bind fun b s => .ok (!b) s := Eq.trans rfl rfl
@[simp] theorem ap_andE (f g : Den) : andE f g ρ st = (f ρ st).bind fun d s => (Res.of (truD d s) s).bind fun b s => if b = true then g ρ s else .ok d s := Eq.trans rfl rfl
@[simp] theorem ap_orE (f g : Den) : orE f g ρ st = (f ρ st).bind fun d s => (Res.of (truD d s) s).bind fun b s => if b = true then .ok d s else g ρ s := Eq.trans rfl rfl
@[simp] theorem ap_notE (f : Den) : notE f ρ st = (f ρ st).bind fun d s => (Res.of (truD d s) s).bind fun b s => .ok (.bl (!b)) s := Eq.trans rfl rfl
@[simp] theorem ap_ifE (c : DenB) (f g : Den) : ifE c f g ρ st = (c ρ st).bind fun b s => if b = true then f ρ s else g ρ s := Eq.trans rfl rfl
@[simp] theorem ap_yes : yesB ρ st = .ok true st := Eq.trans rfl rfl
@[simp] theorem ap_nil : nilL ρ st = .ok [] st := Eq.trans rfl rfl
@[simp] theorem ap_cons (f : Den) (g : DenL) : consL f g ρ st = (f ρ st).bind fun d s => (g ρ s).bind fun ds s2 => .ok (d :: ds) s2 := Eq.trans rfl rfl
@[simp] theorem ap_tup (f : DenL) : tupE f ρ st = (f ρ st).bind fun ds s => if ds.length ≤ sizeLine then .ok (.tup ds) s else .stuck := Eq.trans rfl rfl
@[simp] theorem ap_lst (f : DenL) : lstE f ρ st = (f ρ st).bind fun ds s => if ds.length ≤ sizeLine then .ok (.lst ds) s else .stuck := Eq.trans rfl rfl
@[simp] theorem ap_new (f : DenL) : newE f ρ st = (f ρ st).bind fun ds s => if ds.length ≤ sizeLine then .ok (.ref s.length) (s ++ [.lst ds]) else .stuck := Eq.trans rfl rfl
@[simp] theorem ap_noO : noO ρ st = .ok none st := Eq.trans rfl rfl
def optI (d : D) (s : Store) : Res (Option Int) := match d with
  | .int i => .ok (some i) s
  | _ => .stuck
@[simp] theorem optI_int {i : Int} : optI (.int i) st = .ok (some i) st := Eq.trans rfl rfl
@[simp] theorem ap_soO (f : Den) : soO f ρ st = (f ρ st).bind optI := by
  unfold soO
  cases f ρ st with
  | ok d s => cases d <;> rfl
  | exc c s => rfl
  | stuck => rfl
@[simp] theorem ap_sl (f : Den) (lo hi : DenO) : slE f lo hi ρ st = (f ρ st).bind fun a s => (lo ρ s).bind fun l s2 => (hi ρ s2).bind fun h s3 => Res.of (slD a l h s3) s3 := Eq.trans rfl rfl
@[simp] theorem ap_md (o : MD) (f : Den) (g : DenL) : mdE o f g ρ st = (f ρ st).bind fun x s => guardR ((cellL s x).isSome = true) ((g ρ s).bind fun ds s2 => mdR o x ds s2) := Eq.trans rfl rfl
@[simp] theorem ap_call (n : Nat) (g : Fn) (f : DenL) : callE n g f ρ st = (f ρ st).bind fun ds s => if ds.length = n then g ds s else .stuck := Eq.trans rfl rfl
@[simp] theorem ap_seq (a b : DenS) : seqS a b ρ st = seqO (a ρ st) b := Eq.trans rfl rfl
@[simp] theorem ap_skip : skipS ρ st = .next ρ st := Eq.trans rfl rfl
@[simp] theorem ap_asg (i : Nat) (f : Den) : asgS i f ρ st = thenO (f ρ st) ρ fun d s => .next (ρ.set i (some d)) s := Eq.trans rfl rfl
@[simp] theorem ap_tgt (t : Tgt) (f : Den) : tgtS t f ρ st = thenO (f ρ st) ρ fun d s => tgtO (t d ρ) fun ρ' => .next ρ' s := Eq.trans rfl rfl
@[simp] theorem ap_par2 (i j : Nat) (f : DenL) : parS2 i j f ρ st = thenO (f ρ st) ρ fun ds s => parO2 i j ρ s ds := Eq.trans rfl rfl
@[simp] theorem ap_par3 (i j l : Nat) (f : DenL) : parS3 i j l f ρ st = thenO (f ρ st) ρ fun ds s => parO3 i j l ρ s ds := Eq.trans rfl rfl
@[simp] theorem parO2_two {i j : Nat} {d e : D} : parO2 i j ρ s [d, e] = .next ((ρ.set i (some d)).set j (some e)) s := Eq.trans rfl rfl
@[simp] theorem parO3_three {i j l : Nat} {d e g : D} : parO3 i j l ρ s [d, e, g] = .next (((ρ.set i (some d)).set j (some e)).set l (some g)) s := Eq.trans rfl rfl
@[simp] theorem ap_expr (f : Den) : exprS f ρ st = thenO (f ρ st) ρ fun _ s => .next ρ s := Eq.trans rfl rfl
@[simp] theorem ap_ret (f : Den) : retS f ρ st = thenO (f ρ st) ρ fun d s => .ret d s := Eq.trans rfl rfl
@[simp] theorem ap_retN : retN ρ st = .ret .non st := Eq.trans rfl rfl
@[simp] theorem ap_if (c : DenB) (a b : DenS) : ifS c a b ρ st = thenO (c ρ st) ρ fun d s => if d = true then a ρ s else b ρ s := Eq.trans rfl rfl
@[simp] theorem ap_brk : brkS ρ st = .brk ρ st := Eq.trans rfl rfl
@[simp] theorem ap_cont : contS ρ st = .cont ρ st := Eq.trans rfl rfl
@[simp] theorem ap_set (e x i : Den) : setS e x i ρ st = thenO (e ρ st) ρ fun d s => thenO (x ρ s) ρ fun a s2 => thenO (i ρ s2) ρ fun b s3 => storeO (setR a b d s3) fun s4 => .next ρ s4 := Eq.trans rfl rfl
@[simp] theorem store_some {k : Store → Out} : storeO (some s) k = k s := Eq.trans rfl rfl
@[simp] theorem ap_itE (f : Den) : itE f ρ st = (f ρ st).bind fun d s => Res.of (itD d s) s := Eq.trans rfl rfl
@[simp] theorem ap_rng1 (f : Den) : rng1E f ρ st = (f ρ st).bind fun d s => Res.of (rng1D d) s := Eq.trans rfl rfl
@[simp] theorem ap_rng2 (f g : Den) : rng2E f g ρ st = (f ρ st).bind fun a s => (g ρ s).bind fun b s2 => Res.of (rng2D a b) s2 := Eq.trans rfl rfl
@[simp] theorem ap_zip (f : DenL) : zipE f ρ st = (f ρ st).bind fun ds s => Res.of (zipD ds) s := Eq.trans rfl rfl
def forR (r : Res ItD) (ρ : Env) (tg : Tgt) (body : DenS) (ks : List Nat) : Out := match r with
  | .ok it s => forGo it tg body ks it.items ρ s
  | .exc c s => .exc c ρ s
  | .stuck => .stuck
@[simp] theorem forR_ok {it : ItD} {tg : Tgt} {body : DenS} {ks : List Nat} : forR (.ok it s) ρ tg body ks = forGo it tg body ks it.items ρ s := Eq.trans rfl rfl
theorem ap_for (f : DenI) (tg : Tgt) (body : DenS) (ks : List Nat) : forS f tg body ks ρ st = forR (f ρ st) ρ tg body ks := Eq.trans rfl rfl
theorem ap_comp (f : DenI) (tg : Tgt) (tt : DenB) (elt : Den) (own : List Nat) : compE f tg tt elt own ρ st = (f ρ st).bind fun it s => compGo it tg tt elt (killE own ρ) s it.items [] (s ++ [.lst []]) := Eq.trans rfl rfl
@[simp] theorem ap_nm (i : Nat) (d : D) : nmT i d ρ = some (ρ.set i (some d)) := Eq.trans rfl rfl
@[simp] theorem ap_nilT : nilT [] ρ = some ρ := Eq.trans rfl rfl
@[simp] theorem ap_consT (t : Tgt) (u : Tgts) (d : D) (ds : List D) : consT t u (d :: ds) ρ = (t d ρ).bind (u ds) := Eq.trans rfl rfl
@[simp] theorem ap_ltpT (u : Tgts) (ds : List D) : tupT u (.ltp ds) ρ = u ds ρ := Eq.trans rfl rfl
@[simp] theorem ap_tupT (u : Tgts) (ds : List D) : tupT u (.tup ds) ρ = u ds ρ := Eq.trans rfl rfl
@[simp] theorem ap_defG (N n : Nat) (b : DenS) (ds : List D) : defG N n b ds st = if ds.length = n then leave st (b (envOf N n ds) st) else .stuck := Eq.trans rfl rfl
@[simp] theorem ap_env (N n : Nat) (ds : List D) : envOf N n ds = ds.map some ++ List.replicate (N - n) none := Eq.trans rfl rfl
end
@[simp] theorem guard_true {A : Type} {r : Res A} : guardR True r = r := if_pos trivial
/-! operations -/
section
variable {st s : Store} {i j : Int} {a b : Bool} {x y : Str} {xs ys : List D}
@[simp] theorem add_int : addD (.int i) (.int j) st = some (.int (i + j)) := Eq.trans rfl rfl
@[simp] theorem add_tup (h : xs.length + ys.length ≤ 16777216) : addD (.tup xs) (.tup ys) st = some (.tup (xs ++ ys)) := if_pos (by rw [size_line]; exact h)
@[simp] theorem add_lst (h : xs.length + ys.length ≤ 16777216) : addD (.lst xs) (.lst ys) st = some (.lst (xs ++ ys)) := if_pos (by rw [size_line]; exact h)
@[simp] theorem sub_int : subD (.int i) (.int j) st = some (.int (i - j)) := Eq.trans rfl rfl
@[simp] theorem mul_int (h : mulOk i j) : mulD (.int i) (.int j) st = some (.int (i * j)) := if_pos h
@[simp] theorem mul_lst (h : -16777216 ≤ i ∧ i ≤ 16777216 ∧ xs.length * i.toNat ≤ 16777216) : mulD (.lst xs) (.int i) st = some (.lst (repL i.toNat xs)) := if_pos ⟨by omega, by omega, by rw [size_line]; exact h.2.2⟩
@[simp] theorem fdiv_int (h : CDivW i j) : fdivD (.int i) (.int j) st = some (.int (i / j)) := if_pos h
@[simp] theorem mod_int (h : 0 < j) : modD (.int i) (.int j) st = some (.int (i % j)) := if_pos h
@[simp] theorem neg_int : negD (.int i) st = some (.int (-i)) := Eq.trans rfl rfl
@[simp] theorem tru_non : truD .non st = some false := Eq.trans rfl rfl
@[simp] theorem tru_bl : truD (.bl a) st = some a := Eq.trans rfl rfl
@[simp] theorem tru_int : truD (.int i) st = some (i != 0) := Eq.trans rfl rfl
@[simp] theorem tru_tup : truD (.tup xs) st = some (!xs.isEmpty) := Eq.trans rfl rfl
@[simp] theorem tru_lst : truD (.lst xs) st = some (!xs.isEmpty) := Eq.trans rfl rfl
@[simp] theorem tru_scr {ns : List Int} : truD (.scr ns) st = some (!ns.isEmpty) := by
  show some (!(ns.map D.int).isEmpty) = _
  cases ns <;> rfl
@[simp] theorem le_int : leD (.int i) (.int j) st = some (.bl (decide (i ≤ j))) := Eq.trans rfl rfl
@[simp] theorem ge_int : geD (.int i) (.int j) st = some (.bl (decide (j ≤ i))) := Eq.trans rfl rfl
@[simp] theorem lt_int : ltD (.int i) (.int j) st = some (.bl (decide (i < j))) := Eq.trans rfl rfl
@[simp] theorem gt_int : gtD (.int i) (.int j) st = some (.bl (decide (j < i))) := Eq.trans rfl rfl
theorem eqv_int : D.eqv (.int i) (.int j) = decide (i = j) := rfl
end
end DL

namespace DL
open PySem PySem.Spec PyProof.Rows L2
/-! ### kinds -/
theorem kit_NoneType_int : kitB "NoneType" "int" = some false := by decide +kernel
theorem kit_NoneType_bool : kitB "NoneType" "bool" = some false := by decide +kernel
theorem kit_NoneType_str : kitB "NoneType" "str" = some false := by decide +kernel
theorem kit_NoneType_tuple : kitB "NoneType" "tuple" = some false := by decide +kernel
theorem kit_NoneType_list : kitB "NoneType" "list" = some false := by decide +kernel
theorem kit_bool_int : kitB "bool" "int" = some true := by decide +kernel
theorem kit_bool_bool : kitB "bool" "bool" = some true := by decide +kernel
theorem kit_bool_str : kitB "bool" "str" = some false := by decide +kernel
theorem kit_bool_tuple : kitB "bool" "tuple" = some false := by decide +kernel
theorem kit_bool_list : kitB "bool" "list" = some false := by decide +kernel
theorem kit_int_int : kitB "int" "int" = some true := by decide +kernel
theorem kit_int_bool : kitB "int" "bool" = some false := by decide +kernel
theorem kit_int_str : kitB "int" "str" = some false := by decide +kernel
theorem kit_int_tuple : kitB "int" "tuple" = some false := by decide +kernel
theorem kit_int_list : kitB "int" "list" = some false := by decide +kernel
theorem kit_str_int : kitB "str" "int" = some false := by decide +kernel
theorem kit_str_bool : kitB "str" "bool" = some false := by decide +kernel
theorem kit_str_str : kitB "str" "str" = some true := by decide +kernel
theorem kit_str_tuple : kitB "str" "tuple" = some false := by decide +kernel
theorem kit_str_list : kitB "str" "list" = some false := by decide +kernel
theorem kit_tuple_int : kitB "tuple" "int" = some false := by decide +kernel
theorem kit_tuple_bool : kitB "tuple" "bool" = some false := by decide +kernel
theorem kit_tuple_str : kitB "tuple" "str" = some false := by decide +kernel
theorem kit_tuple_tuple : kitB "tuple" "tuple" = some true := by decide +kernel
theorem kit_tuple_list : kitB "tuple" "list" = some false := by decide +kernel
theorem kit_list_int : kitB "list" "int" = some false := by decide +kernel
theorem kit_list_bool : kitB "list" "bool" = some false := by decide +kernel
theorem kit_list_str : kitB "list" "str" = some false := by decide +kernel
theorem kit_list_tuple : kitB "list" "tuple" = some false := by decide +kernel
theorem kit_list_list : kitB "list" "list" = some true := by decide +kernel
@[simp] theorem is_non_int {st : Store} : isiD "int" .non st = some (.bl false) := congrArg (Option.map D.bl) kit_NoneType_int
@[simp] theorem is_non_bool {st : Store} : isiD "bool" .non st = some (.bl false) := congrArg (Option.map D.bl) kit_NoneType_bool
@[simp] theorem is_non_str {st : Store} : isiD "str" .non st = some (.bl false) := congrArg (Option.map D.bl) kit_NoneType_str
@[simp] theorem is_non_tuple {st : Store} : isiD "tuple" .non st = some (.bl false) := congrArg (Option.map D.bl) kit_NoneType_tuple
@[simp] theorem is_non_list {st : Store} : isiD "list" .non st = some (.bl false) := congrArg (Option.map D.bl) kit_NoneType_list
@[simp] theorem nn_non {st : Store} : isNonD .non .non st = some (.bl true) := Eq.trans rfl rfl
@[simp] theorem nt_non {st : Store} : notNonD .non .non st = some (.bl false) := Eq.trans rfl rfl
@[simp] theorem is_bl_int {st : Store} {b : Bool} : isiD "int" (.bl b) st = some (.bl true) := congrArg (Option.map D.bl) kit_bool_int
@[simp] theorem is_bl_bool {st : Store} {b : Bool} : isiD "bool" (.bl b) st = some (.bl true) := congrArg (Option.map D.bl) kit_bool_bool
@[simp] theorem is_bl_str {st : Store} {b : Bool} : isiD "str" (.bl b) st = some (.bl false) := congrArg (Option.map D.bl) kit_bool_str
@[simp] theorem is_bl_tuple {st : Store} {b : Bool} : isiD "tuple" (.bl b) st = some (.bl false) := congrArg (Option.map D.bl) kit_bool_tuple
@[simp] theorem is_bl_list {st : Store} {b : Bool} : isiD "list" (.bl b) st = some (.bl false) := congrArg (Option.map D.bl) kit_bool_list
@[simp] theorem nn_bl {st : Store} {b : Bool} : isNonD (.bl b) .non st = some (.bl false) := Eq.trans rfl rfl
@[simp] theorem nt_bl {st : Store} {b : Bool} : notNonD (.bl b) .non st = some (.bl true) := Eq.trans rfl rfl
@[simp] theorem is_int_int {st : Store} {i : Int} : isiD "int" (.int i) st = some (.bl true) := congrArg (Option.map D.bl) kit_int_int
@[simp] theorem is_int_bool {st : Store} {i : Int} : isiD "bool" (.int i) st = some (.bl false) := congrArg (Option.map D.bl) kit_int_bool
@[simp] theorem is_int_str {st : Store} {i : Int} : isiD "str" (.int i) st = some (.bl false) := congrArg (Option.map D.bl) kit_int_str
@[simp] theorem is_int_tuple {st : Store} {i : Int} : isiD "tuple" (.int i) st = some (.bl false) := congrArg (Option.map D.bl) kit_int_tuple
@[simp] theorem is_int_list {st : Store} {i : Int} : isiD "list" (.int i) st = some (.bl false) := congrArg (Option.map D.bl) kit_int_list
@[simp] theorem nn_int {st : Store} {i : Int} : isNonD (.int i) .non st = some (.bl false) := Eq.trans rfl rfl
@[simp] theorem nt_int {st : Store} {i : Int} : notNonD (.int i) .non st = some (.bl true) := Eq.trans rfl rfl
@[simp] theorem is_str_int {st : Store} {x : Str} : isiD "int" (.str x) st = some (.bl false) := congrArg (Option.map D.bl) kit_str_int
@[simp] theorem is_str_bool {st : Store} {x : Str} : isiD "bool" (.str x) st = some (.bl false) := congrArg (Option.map D.bl) kit_str_bool
@[simp] theorem is_str_str {st : Store} {x : Str} : isiD "str" (.str x) st = some (.bl true) := congrArg (Option.map D.bl) kit_str_str
@[simp] theorem is_str_tuple {st : Store} {x : Str} : isiD "tuple" (.str x) st = some (.bl false) := congrArg (Option.map D.bl) kit_str_tuple
@[simp] theorem is_str_list {st : Store} {x : Str} : isiD "list" (.str x) st = some (.bl false) := congrArg (Option.map D.bl) kit_str_list
@[simp] theorem nn_str {st : Store} {x : Str} : isNonD (.str x) .non st = some (.bl false) := Eq.trans rfl rfl
@[simp] theorem nt_str {st : Store} {x : Str} : notNonD (.str x) .non st = some (.bl true) := Eq.trans rfl rfl
@[simp] theorem is_tup_int {st : Store} {xs : List D} : isiD "int" (.tup xs) st = some (.bl false) := congrArg (Option.map D.bl) kit_tuple_int
@[simp] theorem is_tup_bool {st : Store} {xs : List D} : isiD "bool" (.tup xs) st = some (.bl false) := congrArg (Option.map D.bl) kit_tuple_bool
@[simp] theorem is_tup_str {st : Store} {xs : List D} : isiD "str" (.tup xs) st = some (.bl false) := congrArg (Option.map D.bl) kit_tuple_str
@[simp] theorem is_tup_tuple {st : Store} {xs : List D} : isiD "tuple" (.tup xs) st = some (.bl true) := congrArg (Option.map D.bl) kit_tuple_tuple
@[simp] theorem is_tup_list {st : Store} {xs : List D} : isiD "list" (.tup xs) st = some (.bl false) := congrArg (Option.map D.bl) kit_tuple_list
@[simp] theorem nn_tup {st : Store} {xs : List D} : isNonD (.tup xs) .non st = some (.bl false) := Eq.trans rfl rfl
@[simp] theorem nt_tup {st : Store} {xs : List D} : notNonD (.tup xs) .non st = some (.bl true) := Eq.trans rfl rfl
@[simp] theorem is_lst_int {st : Store} {xs : List D} : isiD "int" (.lst xs) st = some (.bl false) := congrArg (Option.map D.bl) kit_list_int
@[simp] theorem is_lst_bool {st : Store} {xs : List D} : isiD "bool" (.lst xs) st = some (.bl false) := congrArg (Option.map D.bl) kit_list_bool
@[simp] theorem is_lst_str {st : Store} {xs : List D} : isiD "str" (.lst xs) st = some (.bl false) := congrArg (Option.map D.bl) kit_list_str
@[simp] theorem is_lst_tuple {st : Store} {xs : List D} : isiD "tuple" (.lst xs) st = some (.bl false) := congrArg (Option.map D.bl) kit_list_tuple
@[simp] theorem is_lst_list {st : Store} {xs : List D} : isiD "list" (.lst xs) st = some (.bl true) := congrArg (Option.map D.bl) kit_list_list
@[simp] theorem nn_lst {st : Store} {xs : List D} : isNonD (.lst xs) .non st = some (.bl false) := Eq.trans rfl rfl
@[simp] theorem nt_lst {st : Store} {xs : List D} : notNonD (.lst xs) .non st = some (.bl true) := Eq.trans rfl rfl

/-! ### equality -/
theorem eqvL_nil : eqvL [] [] = true := rfl
section
variable {st s : Store} {i j : Int} {a b : Bool} {x y : Str} {xs ys : List D} {d e : D}
@[simp] theorem ev_int : D.eqv (.int i) (.int j) = decide (i = j) := Eq.trans rfl rfl
@[simp] theorem ev_str : D.eqv (.str x) (.str y) = (x == y) := Eq.trans rfl rfl
@[simp] theorem ev_bl : D.eqv (.bl a) (.bl b) = (a == b) := Eq.trans rfl rfl
@[simp] theorem ev_non : D.eqv .non .non = true := Eq.trans rfl rfl
@[simp] theorem ev_tup : D.eqv (.tup xs) (.tup ys) = eqvL xs ys := Eq.trans rfl rfl
@[simp] theorem ev_lst : D.eqv (.lst xs) (.lst ys) = eqvL xs ys := Eq.trans rfl rfl
@[simp] theorem ev_int_str : D.eqv (.int i) (.str x) = false := Eq.trans rfl rfl
@[simp] theorem ev_str_int : D.eqv (.str x) (.int i) = false := Eq.trans rfl rfl
@[simp] theorem ev_tup_str : D.eqv (.tup xs) (.str x) = false := Eq.trans rfl rfl
@[simp] theorem ev_str_tup : D.eqv (.str x) (.tup xs) = false := Eq.trans rfl rfl
@[simp] theorem ev_int_tup : D.eqv (.int i) (.tup xs) = false := Eq.trans rfl rfl
@[simp] theorem ev_tup_int : D.eqv (.tup xs) (.int i) = false := Eq.trans rfl rfl
@[simp] theorem ev_non_tup : D.eqv .non (.tup xs) = false := Eq.trans rfl rfl
@[simp] theorem ev_tup_non : D.eqv (.tup xs) .non = false := Eq.trans rfl rfl
@[simp] theorem ev_non_str : D.eqv .non (.str x) = false := Eq.trans rfl rfl
@[simp] theorem ev_str_non : D.eqv (.str x) .non = false := Eq.trans rfl rfl
@[simp] theorem ev_non_int : D.eqv .non (.int i) = false := Eq.trans rfl rfl
@[simp] theorem ev_int_non : D.eqv (.int i) .non = false := Eq.trans rfl rfl
@[simp] theorem evL_nil : eqvL [] [] = true := Eq.trans rfl rfl
@[simp] theorem evL_nc : eqvL [] (e :: ys) = false := Eq.trans rfl rfl
@[simp] theorem evL_cn : eqvL (d :: xs) [] = false := Eq.trans rfl rfl
@[simp] theorem evL_cc : eqvL (d :: xs) (e :: ys) = (D.eqv d e && eqvL xs ys) := Eq.trans rfl rfl
@[simp] theorem fit_int {n : Nat} : fits (.int i) n = true := Eq.trans rfl rfl
@[simp] theorem fit_str {n : Nat} : fits (.str x) n = true := Eq.trans rfl rfl
@[simp] theorem fit_bl {n : Nat} : fits (.bl a) n = true := Eq.trans rfl rfl
@[simp] theorem fit_non {n : Nat} : fits .non n = true := Eq.trans rfl rfl
@[simp] theorem fit_tup {n : Nat} : fits (.tup xs) (n + 1) = fitsL xs n := Eq.trans rfl rfl
@[simp] theorem fit_lst {n : Nat} : fits (.lst xs) (n + 1) = fitsL xs n := Eq.trans rfl rfl
@[simp] theorem fitL_nil {n : Nat} : fitsL [] n = true := Eq.trans rfl rfl
@[simp] theorem fitL_cons {n : Nat} : fitsL (d :: xs) n = (fits d n && fitsL xs n) := Eq.trans rfl rfl
@[simp] theorem de_ref_int : deref st (.int i) = .int i := Eq.trans rfl rfl
@[simp] theorem de_ref_str : deref st (.str x) = .str x := Eq.trans rfl rfl
@[simp] theorem de_ref_bl : deref st (.bl a) = .bl a := Eq.trans rfl rfl
@[simp] theorem de_ref_non : deref st .non = .non := Eq.trans rfl rfl
@[simp] theorem de_ref_tup : deref st (.tup xs) = .tup xs := Eq.trans rfl rfl
@[simp] theorem de_ref_lst : deref st (.lst xs) = .lst xs := Eq.trans rfl rfl
theorem eq_ap (d e : D) : eqD d e st = if fits (deref st d) 60 && fits (deref st e) 60 then some (.bl (D.eqv (deref st d) (deref st e))) else none := rfl
theorem ne_ap (d e : D) : neD d e st = if fits (deref st d) 60 && fits (deref st e) 60 then some (.bl (!D.eqv (deref st d) (deref st e))) else none := rfl
@[simp] theorem eq_int : eqD (.int i) (.int j) st = some (.bl (decide (i = j))) := Eq.trans rfl rfl
@[simp] theorem ne_int : neD (.int i) (.int j) st = some (.bl (!decide (i = j))) := Eq.trans rfl rfl
@[simp] theorem eq_str : eqD (.str x) (.str y) st = some (.bl (x == y)) := Eq.trans rfl rfl
@[simp] theorem ne_str : neD (.str x) (.str y) st = some (.bl (!(x == y))) := Eq.trans rfl rfl
@[simp] theorem eq_bl : eqD (.bl a) (.bl b) st = some (.bl (a == b)) := Eq.trans rfl rfl
@[simp] theorem eq_tup : eqD (.tup xs) (.tup ys) st = if fitsL xs 59 && fitsL ys 59 then some (.bl (eqvL xs ys)) else none := Eq.trans rfl rfl
@[simp] theorem ne_tup : neD (.tup xs) (.tup ys) st = if fitsL xs 59 && fitsL ys 59 then some (.bl (!eqvL xs ys)) else none := Eq.trans rfl rfl
@[simp] theorem eq_lst : eqD (.lst xs) (.lst ys) st = if fitsL xs 59 && fitsL ys 59 then some (.bl (eqvL xs ys)) else none := Eq.trans rfl rfl
@[simp] theorem ne_lst : neD (.lst xs) (.lst ys) st = if fitsL xs 59 && fitsL ys 59 then some (.bl (!eqvL xs ys)) else none := Eq.trans rfl rfl
/-! ### lists, lengths -/
@[simp] theorem vw_lst : view st (.lst xs) = some xs := Eq.trans rfl rfl
@[simp] theorem vw_tup : view st (.tup xs) = some xs := Eq.trans rfl rfl
@[simp] theorem vw_scr {ns : List Int} : view st (.scr ns) = some (ns.map D.int) := Eq.trans rfl rfl
@[simp] theorem vl_lst : viewL st (.lst xs) = some xs := Eq.trans rfl rfl
@[simp] theorem len_lst : lenO [.lst xs] st = some (.int xs.length) := Eq.trans rfl rfl
@[simp] theorem len_tup : lenO [.tup xs] st = some (.int xs.length) := Eq.trans rfl rfl
@[simp] theorem len_scr {ns : List Int} : lenO [.scr ns] st = some (.int ns.length) := by
  show some (D.int (ns.map D.int).length) = _
  rw [List.length_map]
@[simp] theorem it_lst : itD (.lst xs) st = some ⟨xs, none⟩ := Eq.trans rfl rfl
@[simp] theorem it_tup : itD (.tup xs) st = some ⟨xs, none⟩ := Eq.trans rfl rfl
@[simp] theorem it_scr {ns : List Int} : itD (.scr ns) st = some ⟨ns.map D.int, none⟩ := Eq.trans rfl rfl
@[simp] theorem rng1_int (h : -1000000000 ≤ i ∧ i ≤ 1000000000) : rng1D (.int i) = some ⟨rangeD 0 i.toNat, none⟩ := if_pos (by omega)
@[simp] theorem rng2_int (h : -1000000000 ≤ i ∧ i ≤ 1000000000 ∧ -1000000000 ≤ j ∧ j ≤ 1000000000) : rng2D (.int i) (.int j) = some ⟨rangeD i (j - i).toNat, none⟩ := if_pos (by omega)
@[simp] theorem zip_tup : zipD [.tup xs, .tup ys] = some ⟨pairs xs ys, none⟩ := Eq.trans rfl rfl
@[simp] theorem zip_lst : zipD [.lst xs, .lst ys] = some ⟨pairs xs ys, none⟩ := Eq.trans rfl rfl
@[simp] theorem abs_int : absO [.int i] st = some (.int (if i < 0 then -i else i)) := Eq.trans rfl rfl
@[simp] theorem int_int : intO [.int i] st = some (.int i) := Eq.trans rfl rfl
@[simp] theorem int_bl : intO [.bl a] st = some (.int (if a then 1 else 0)) := Eq.trans rfl rfl
@[simp] theorem max_ints {ns : List Int} (h : 0 < ns.length) : maxO [.lst (ns.map .int)] st = some (.int (maxI ns)) := by
  show ((some (ns.map D.int)).bind intsOf).bind _ = _
  have : intsOf (ns.map D.int) = some ns := by
    clear h
    induction ns with
    | nil => rfl
    | cons n ns ih =>
      show (intsOf (ns.map D.int)).map (n :: ·) = _
      rw [ih]; rfl
  show (intsOf (ns.map D.int)).bind _ = _
  rw [this]
  exact if_pos h
theorem ints_of (ns : List Int) : intsOf (ns.map D.int) = some ns := by
  induction ns with
  | nil => rfl
  | cons n ns ih =>
    show (intsOf (ns.map D.int)).map (n :: ·) = _
    rw [ih]; rfl
theorem bls_of (ns : List Bool) : blsOf (ns.map D.bl) = some ns := by
  induction ns with
  | nil => rfl
  | cons n ns ih =>
    show (blsOf (ns.map D.bl)).map (n :: ·) = _
    rw [ih]; rfl
@[simp] theorem ints_nil : intsOf [] = some [] := Eq.trans rfl rfl
@[simp] theorem ints_cons : intsOf (.int i :: xs) = (intsOf xs).map (i :: ·) := Eq.trans rfl rfl
@[simp] theorem bls_nil : blsOf [] = some [] := Eq.trans rfl rfl
@[simp] theorem bls_cons : blsOf (.bl a :: xs) = (blsOf xs).map (a :: ·) := Eq.trans rfl rfl
@[simp] theorem sum_lst : sumO [.lst xs] st = (intsOf xs).map fun ns => .int ns.sum := Eq.trans rfl rfl
@[simp] theorem sum_tup : sumO [.tup xs] st = (intsOf xs).map fun ns => .int ns.sum := Eq.trans rfl rfl
@[simp] theorem all_lst : allO [.lst xs] st = (blsOf xs).map fun bs => .bl (bs.all id) := Eq.trans rfl rfl
@[simp] theorem tuple_lst : tupleO [.lst xs] st = some (.tup xs) := Eq.trans rfl rfl
@[simp] theorem tuple_tup : tupleO [.tup xs] st = some (.tup xs) := Eq.trans rfl rfl
@[simp] theorem list_lst : listO [.lst xs] st = some (.lst xs) := Eq.trans rfl rfl
@[simp] theorem list_tup : listO [.tup xs] st = some (.lst xs) := Eq.trans rfl rfl
/-! ### cells -/
theorem cell_at {n : Nat} {zs : List D} (h : st[n]? = some (.lst zs)) : cellL st (.ref n) = some (n, zs) := by
  show (match st[n]? with | some (.lst xs) => some (n, xs) | _ => none) = _
  rw [h]
@[simp] theorem cell_0 {r : Store} : cellL (.lst xs :: r) (.ref 0) = some (0, xs) := Eq.trans rfl rfl
@[simp] theorem cell_1 {c : Cell} {r : Store} : cellL (c :: .lst xs :: r) (.ref 1) = some (1, xs) := Eq.trans rfl rfl
@[simp] theorem cell_last {r : Store} : cellL (st ++ .lst xs :: r) (.ref st.length) = some (st.length, xs) := cell_at (by rw [List.getElem?_append_right (Nat.le_refl _)]; simp)
@[simp] theorem vw_ref {n : Nat} : view st (.ref n) = (cellL st (.ref n)).map (·.2) := by
  show (match st[n]? with | some (.lst xs) => some xs | _ => none) = (match st[n]? with | some (.lst xs) => some (n, xs) | _ => none).map fun p : Nat × List D => p.2
  split <;> rfl
@[simp] theorem vl_ref {n : Nat} : viewL st (.ref n) = (cellL st (.ref n)).map (·.2) := by
  show (match st[n]? with | some (.lst xs) => some xs | _ => none) = (match st[n]? with | some (.lst xs) => some (n, xs) | _ => none).map fun p : Nat × List D => p.2
  split <;> rfl
@[simp] theorem tru_ref {n : Nat} : truD (.ref n) st = (cellL st (.ref n)).map fun p => !p.2.isEmpty := by
  show (view st (.ref n)).map _ = _
  rw [vw_ref, Option.map_map]
  rfl
@[simp] theorem len_ref {n : Nat} : lenO [.ref n] st = (cellL st (.ref n)).map fun p => .int p.2.length := by
  show (view st (.ref n)).map _ = _
  rw [vw_ref, Option.map_map]
  rfl
@[simp] theorem cell_h0 {c : Cell} {r q : Store} : cellL (c :: (r ++ .lst xs :: q)) (.ref (r.length + 1)) = some (r.length + 1, xs) := cell_at (by simp)
@[simp] theorem cell_h1 {c c1 : Cell} {r q : Store} : cellL (c :: (r ++ c1 :: .lst xs :: q)) (.ref (r.length + 1 + 1)) = some (r.length + 1 + 1, xs) := cell_at (by
  rw [List.getElem?_cons_succ, List.getElem?_append_right (by omega)]
  simp)
@[simp] theorem set_h0 {c a b : Cell} {r q : Store} : (c :: (r ++ a :: q)).set (r.length + 1) b = c :: (r ++ b :: q) := by
  rw [List.set_cons_succ, List.set_append_right _ _ (Nat.le_refl _)]
  simp
@[simp] theorem set_h1 {c c1 a b : Cell} {r q : Store} : (c :: (r ++ c1 :: a :: q)).set (r.length + 1 + 1) b = c :: (r ++ c1 :: b :: q) := by
  rw [List.set_cons_succ, List.set_append_right _ _ (by omega)]
  simp
@[simp] theorem set_last {a b : Cell} {r q : Store} : (r ++ a :: q).set r.length b = r ++ b :: q := by
  rw [List.set_append_right _ _ (Nat.le_refl _)]
  simp
@[simp] theorem cell_last1 {c1 : Cell} {r : Store} : cellL (st ++ c1 :: .lst xs :: r) (.ref (st.length + 1)) = some (st.length + 1, xs) := cell_at (by
  rw [List.getElem?_append_right (by omega)]
  simp)
@[simp] theorem set_last1 {c1 a b : Cell} {r q : Store} : (r ++ c1 :: a :: q).set (r.length + 1) b = r ++ c1 :: b :: q := by
  rw [List.set_append_right _ _ (by omega)]
  simp
def mdK (q : Option (D × List D)) (n : Nat) (s : Store) : Res D := match q with
  | some (r, ys) => .ok r (s.set n (.lst ys))
  | none => .stuck
@[simp] theorem mdK_some {r : D} {n : Nat} : mdK (some (r, ys)) n s = .ok r (s.set n (.lst ys)) := Eq.trans rfl rfl
def mdC (o : MD) (q : Option (Nat × List D)) (ds : List D) (s : Store) : Res D := match q with
  | some (n, xs) => mdK (o xs ds) n s
  | none => .stuck
@[simp] theorem mdC_some {o : MD} {n : Nat} {ds : List D} : mdC o (some (n, xs)) ds s = mdK (o xs ds) n s := Eq.trans rfl rfl
@[simp] theorem mdR_eq {o : MD} {ds : List D} : mdR o d ds s = mdC o (cellL s d) ds s := by
  unfold mdR mdC
  cases cellL s d with
  | none => rfl
  | some p => rfl
@[simp] theorem app_ap (h : xs.length < 16777216) : appO xs [d] = some (.non, xs ++ [d]) := if_pos (by rw [size_line]; exact h)
def setC (q : Option (Nat × List D)) (i : Int) (d : D) (s : Store) : Option Store := match q with
  | some (n, xs) => (ixN xs.length i).map fun j => s.set n (.lst (xs.set j d))
  | none => none
@[simp] theorem setC_some {n : Nat} : setC (some (n, xs)) i d s = (ixN xs.length i).map fun j => s.set n (.lst (xs.set j d)) := Eq.trans rfl rfl
@[simp] theorem setR_int {a : D} : setR a (.int i) d s = setC (cellL s a) i d s := by
  show (match cellL s a with | some (n, xs) => (ixN xs.length i).map fun j => s.set n (.lst (xs.set j d)) | none => none) = _
  cases cellL s a with
  | none => rfl
  | some p => rfl
end
end DL

namespace DL
open PySem PySem.Spec PyProof.Rows L2

/-! ### items -/
section
variable {st s : Store} {d : D} {xs : List D} {i : Int}
theorem atI_at {α : Type} {xs : List α} {x : α} {j : Nat} (h : xs[j]? = some x) : atI xs (j : Int) = some x := by
  have hl : j < xs.length := (List.getElem?_eq_some_iff.mp h).1
  unfold atI ixN
  rw [if_pos (by omega), if_pos (by omega)]
  simpa using h
theorem atI_pos {α : Type} {xs : List α} {x : α} (h0 : 0 ≤ i) (h : xs[i.toNat]? = some x) : atI xs i = some x := by
  have := atI_at h
  rwa [Int.toNat_of_nonneg h0] at this
theorem atI_neg {α : Type} {xs : List α} {x : α} (h0 : i < 0) (h1 : 0 ≤ i + xs.length) (h : xs[(i + xs.length).toNat]? = some x) : atI xs i = some x := by
  unfold atI ixN
  rw [if_neg (by omega), if_pos (by omega)]
  exact h
@[simp] theorem ix_lst : ixD (.lst xs) (.int i) st = atI xs i := Eq.trans rfl rfl
@[simp] theorem ix_tup : ixD (.tup xs) (.int i) st = atI xs i := Eq.trans rfl rfl
@[simp] theorem ix_scr {ns : List Int} : ixD (.scr ns) (.int i) st = atI (ns.map .int) i := Eq.trans rfl rfl
@[simp] theorem ix_ref {n : Nat} : ixD (.ref n) (.int i) st = (cellL st (.ref n)).bind fun p => atI p.2 i := by
  show (view st (.ref n)).bind _ = _
  rw [vw_ref]
  cases cellL st (.ref n) <;> rfl
@[simp] theorem atI_zero {α : Type} {x : α} {xs : List α} : atI (x :: xs) 0 = some x := atI_at (j := 0) rfl
end

@[simp] theorem atI_1 {α : Type} {x0 x1 : α} {xs : List α} : atI (x0 :: x1 :: xs) 1 = some x1 := atI_at (j := 1) rfl
@[simp] theorem atI_2 {α : Type} {x0 x1 x2 : α} {xs : List α} : atI (x0 :: x1 :: x2 :: xs) 2 = some x2 := atI_at (j := 2) rfl
@[simp] theorem atI_3 {α : Type} {x0 x1 x2 x3 : α} {xs : List α} : atI (x0 :: x1 :: x2 :: x3 :: xs) 3 = some x3 := atI_at (j := 3) rfl
@[simp] theorem atI_4 {α : Type} {x0 x1 x2 x3 x4 : α} {xs : List α} : atI (x0 :: x1 :: x2 :: x3 :: x4 :: xs) 4 = some x4 := atI_at (j := 4) rfl
@[simp] theorem atI_5 {α : Type} {x0 x1 x2 x3 x4 x5 : α} {xs : List α} : atI (x0 :: x1 :: x2 :: x3 :: x4 :: x5 :: xs) 5 = some x5 := atI_at (j := 5) rfl
@[simp] theorem atI_6 {α : Type} {x0 x1 x2 x3 x4 x5 x6 : α} {xs : List α} : atI (x0 :: x1 :: x2 :: x3 :: x4 :: x5 :: x6 :: xs) 6 = some x6 := atI_at (j := 6) rfl
@[simp] theorem atI_7 {α : Type} {x0 x1 x2 x3 x4 x5 x6 x7 : α} {xs : List α} : atI (x0 :: x1 :: x2 :: x3 :: x4 :: x5 :: x6 :: x7 :: xs) 7 = some x7 := atI_at (j := 7) rfl
@[simp] theorem atI_8 {α : Type} {x0 x1 x2 x3 x4 x5 x6 x7 x8 : α} {xs : List α} : atI (x0 :: x1 :: x2 :: x3 :: x4 :: x5 :: x6 :: x7 :: x8 :: xs) 8 = some x8 := atI_at (j := 8) rfl
@[simp] theorem atI_9 {α : Type} {x0 x1 x2 x3 x4 x5 x6 x7 x8 x9 : α} {xs : List α} : atI (x0 :: x1 :: x2 :: x3 :: x4 :: x5 :: x6 :: x7 :: x8 :: x9 :: xs) 9 = some x9 := atI_at (j := 9) rfl
@[simp] theorem atI_10 {α : Type} {x0 x1 x2 x3 x4 x5 x6 x7 x8 x9 x10 : α} {xs : List α} : atI (x0 :: x1 :: x2 :: x3 :: x4 :: x5 :: x6 :: x7 :: x8 :: x9 :: x10 :: xs) 10 = some x10 := atI_at (j := 10) rfl
@[simp] theorem atI_11 {α : Type} {x0 x1 x2 x3 x4 x5 x6 x7 x8 x9 x10 x11 : α} {xs : List α} : atI (x0 :: x1 :: x2 :: x3 :: x4 :: x5 :: x6 :: x7 :: x8 :: x9 :: x10 :: x11 :: xs) 11 = some x11 := atI_at (j := 11) rfl
@[simp] theorem atI_12 {α : Type} {x0 x1 x2 x3 x4 x5 x6 x7 x8 x9 x10 x11 x12 : α} {xs : List α} : atI (x0 :: x1 :: x2 :: x3 :: x4 :: x5 :: x6 :: x7 :: x8 :: x9 :: x10 :: x11 :: x12 :: xs) 12 = some x12 := atI_at (j := 12) rfl
@[simp] theorem atI_13 {α : Type} {x0 x1 x2 x3 x4 x5 x6 x7 x8 x9 x10 x11 x12 x13 : α} {xs : List α} : atI (x0 :: x1 :: x2 :: x3 :: x4 :: x5 :: x6 :: x7 :: x8 :: x9 :: x10 :: x11 :: x12 :: x13 :: xs) 13 = some x13 := atI_at (j := 13) rfl
@[simp] theorem atI_ite {α : Type} {xs : List α} {c : Prop} [Decidable c] {i j : Int} : atI xs (if c then i else j) = if c then atI xs i else atI xs j := by split <;> rfl
@[simp] theorem ixN_pos {n : Nat} {i : Int} (h : 0 ≤ i ∧ i < n) : ixN n i = some i.toNat := by
  unfold ixN
  rw [if_pos h.1, if_pos h.2]

/-! ### slices, repeats -/
section
variable {st : Store} {xs : List D} {i : Int}
@[simp] theorem sl_tup {lo hi : Option Int} : slD (.tup xs) lo hi st = some (.tup (cutL xs lo hi)) := Eq.trans rfl rfl
@[simp] theorem sl_lst {lo hi : Option Int} : slD (.lst xs) lo hi st = some (.lst (cutL xs lo hi)) := Eq.trans rfl rfl
@[simp] theorem rev_tup : revD (.tup xs) st = some (.tup xs.reverse) := Eq.trans rfl rfl
@[simp] theorem rev_lst : revD (.lst xs) st = some (.lst xs.reverse) := Eq.trans rfl rfl
@[simp] theorem cut_to (h : 0 ≤ i) : cutL xs none (some i) = xs.take i.toNat := by
  show ((xs.drop 0).take ((if i < 0 then (i + (xs.length : Int)).toNat else min i.toNat xs.length) - 0)) = _
  rw [if_neg (by omega), List.drop_zero, Nat.sub_zero]
  by_cases hl : i.toNat ≤ xs.length
  · rw [Nat.min_eq_left hl]
  · rw [Nat.min_eq_right (by omega), List.take_length, List.take_of_length_le (by omega)]
@[simp] theorem cut_from (h : 0 ≤ i) : cutL xs (some i) none = xs.drop i.toNat := by
  show ((xs.drop (if i < 0 then (i + (xs.length : Int)).toNat else min i.toNat xs.length)).take (xs.length - (if i < 0 then (i + (xs.length : Int)).toNat else min i.toNat xs.length))) = _
  rw [if_neg (by omega)]
  by_cases hl : i.toNat ≤ xs.length
  · rw [Nat.min_eq_left hl, List.take_of_length_le (by simp)]
  · rw [Nat.min_eq_right (by omega), List.drop_length, List.drop_of_length_le (by omega)]
    simp
@[simp] theorem cut_part {j : Int} (h : 0 ≤ i ∧ i ≤ j) : cutL xs (some i) (some j) = (xs.drop i.toNat).take (j.toNat - i.toNat) := by
  show ((xs.drop (if i < 0 then (i + (xs.length : Int)).toNat else min i.toNat xs.length)).take ((if j < 0 then (j + (xs.length : Int)).toNat else min j.toNat xs.length) - (if i < 0 then (i + (xs.length : Int)).toNat else min i.toNat xs.length))) = _
  rw [if_neg (by omega), if_neg (by omega)]
  by_cases hl : i.toNat ≤ xs.length
  · rw [Nat.min_eq_left hl]
    by_cases hj : j.toNat ≤ xs.length
    · rw [Nat.min_eq_left hj]
    · rw [Nat.min_eq_right (by omega), List.take_of_length_le (by simp), List.take_of_length_le (by simp; omega)]
  · rw [Nat.min_eq_right (a := i.toNat) (by omega), List.drop_length, List.drop_of_length_le (by omega)]
    simp
theorem rep_ints {n : Nat} {a : Int} : repL n [.int a] = (List.replicate n a).map .int := by
  unfold repL
  rw [List.map_replicate]
  induction n with
  | zero => rfl
  | succ n ih => rw [List.replicate_succ, List.replicate_succ, List.flatten_cons, ih]; rfl
theorem ints_reps {n m : Nat} {a b : Int} : intsOf (List.replicate n (.int a) ++ List.replicate m (.int b)) = some (List.replicate n a ++ List.replicate m b) := by
  have := ints_of (List.replicate n a ++ List.replicate m b)
  rwa [List.map_append, List.map_replicate, List.map_replicate] at this
theorem ints_app : ∀ {xs ys : List D}, intsOf (xs ++ ys) = (intsOf xs).bind fun a => (intsOf ys).map (a ++ ·)
  | [], ys => by
    show intsOf ys = (some []).bind _
    cases h : intsOf ys <;> simp [h]
  | x :: xs, ys => by
    cases x with
    | int i =>
      show (intsOf (xs ++ ys)).map (i :: ·) = ((intsOf xs).map (i :: ·)).bind _
      rw [ints_app]
      cases intsOf xs <;> cases intsOf ys <;> simp
    | _ => rfl
theorem ints_rep (n : Nat) (a : Int) : intsOf (repL n [.int a]) = some (List.replicate n a) := by rw [rep_ints, ints_of]
theorem rep_length (n : Nat) (xs : List D) : (repL n xs).length = n * xs.length := by unfold repL; simp
theorem sum_rep (n : Nat) (a : Int) : (List.replicate n a).sum = n * a := by
  induction n with
  | zero => simp
  | succ n ih => rw [List.replicate_succ, List.sum_cons, ih, Int.natCast_succ, Int.add_mul]; omega
end

/-! ### no cells within -/
mutual
theorem lo_mono {n m : Nat} : ∀ (d : D), n ≤ m → lo n d = true → lo m d = true
  | .ref k, h, e => decide_eq_true (Nat.lt_of_lt_of_le (of_decide_eq_true (show decide (k < n) = true from e)) h)
  | .tup xs, h, e => loL_mono xs h e
  | .lst xs, h, e => loL_mono xs h e
  | .non, _, _ => rfl
  | .bl _, _, _ => rfl
  | .int _, _, _ => rfl
  | .str _, _, _ => rfl
  | .scr _, _, _ => rfl
  | .ltp xs, h, e => loL_mono xs h e
theorem loL_mono {n m : Nat} : ∀ (d : List D), n ≤ m → loL n d = true → loL m d = true
  | [], _, _ => rfl
  | x :: xs, h, e => by
    have e : (lo n x && loL n xs) = true := e
    rw [Bool.and_eq_true] at e
    show (lo m x && loL m xs) = true
    rw [lo_mono x h e.1, loL_mono xs h e.2]
    rfl
end
theorem loL_all {n : Nat} : ∀ {xs : List D}, loL n xs = true → ∀ x ∈ xs, lo n x = true
  | y :: xs, h, x, m => by
    have h : (lo n y && loL n xs) = true := h
    rw [Bool.and_eq_true] at h
    rcases List.mem_cons.mp m with rfl | m
    · exact h.1
    · exact loL_all h.2 x m

/-! ### the way out of a def -/
section
variable {st r : Store} {d : D} {ρ : Env} {c : Cell}
theorem frz_lo {s : Store} (h : lo st.length d = true) : frz st d s = d := by
  cases d with
  | ref n =>
    have h : decide (n < st.length) = true := h
    have h := of_decide_eq_true h
    show (if st.length ≤ n then _ else D.ref n) = _
    rw [if_neg (by omega)]
  | _ => rfl
theorem leave_app (h : lo st.length d = true) : leave st (.ret d (st ++ r)) = .ok d st := by
  show cutR st (frz st d (st ++ r)) (st ++ r) = _
  rw [frz_lo h]
  exact cutR_app h
@[simp] theorem leave_ret (h : lo st.length d = true) : leave st (.ret d st) = .ok d st := by
  have := leave_app (r := []) h
  rwa [List.append_nil] at this
@[simp] theorem leave_retA (h : lo st.length d = true) {c : Cell} : leave st (.ret d (st ++ [c])) = .ok d st := leave_app h
@[simp] theorem leave_next : leave st (.next ρ st) = .ok .non st := by
  show cutR st .non st = _
  exact cutR_refl rfl
@[simp] theorem leave_nextA {c : Cell} : leave st (.next ρ (st ++ [c])) = .ok .non st := by
  show cutR st .non (st ++ [c]) = _
  exact cutR_app rfl
theorem lo_list {xs : List D} {n : Nat} (h : ∀ x ∈ xs, lo n x = true) : loL n xs = true := by
  induction xs with
  | nil => rfl
  | cons x xs ih =>
    show (lo n x && loL n xs) = true
    rw [h x (by simp), ih fun y hy => h y (by simp [hy])]
    rfl
theorem lo_up : ∀ {d : D} {n : Nat}, lo 0 d = true → lo n d = true := fun {d n} => lo_mono d (Nat.zero_le n)
theorem lo_mem {xs : List D} {n : Nat} {x : D} (h : loL 0 xs = true) (m : x ∈ xs) : lo n x = true := lo_up (loL_all h x m)
/-- a new list is handed over -/
theorem leave_new {xs : List D} (h : loL st.length xs = true) : leave st (.ret (.ref st.length) (st ++ [.lst xs])) = .ok (.lst xs) st := by
  show cutR st (frz st (.ref st.length) (st ++ [.lst xs])) (st ++ [.lst xs]) = _
  have e : frz st (.ref st.length) (st ++ [.lst xs]) = .lst xs := by
    show (if st.length ≤ st.length then (match (st ++ [Cell.lst xs])[st.length]? with | some (.lst xs) => D.lst xs | _ => D.ref st.length) else D.ref st.length) = _
    rw [if_pos (Nat.le_refl _), List.getElem?_append_right (Nat.le_refl _)]
    simp
  rw [e]
  exact cutR_app h
/-- the cell at the head has changed, a new list is handed over -/
theorem leave_headL {c0 : Cell} {xs : List D} {n : Nat} {q : Store} (hn : r.length + 1 ≤ n) (hq : (c :: (r ++ q))[n]? = some (.lst xs)) (h : loL (r.length + 1) xs = true) (hc : loC (r.length + 1) c = true) : leave (c0 :: r) (.ret (.ref n) (c :: (r ++ q))) = .ok (.lst xs) (c :: r) := by
  show cutR (c0 :: r) (frz (c0 :: r) (.ref n) (c :: (r ++ q))) (c :: (r ++ q)) = _
  have e : frz (c0 :: r) (.ref n) (c :: (r ++ q)) = .lst xs := by
    show (if (c0 :: r).length ≤ n then (match (c :: (r ++ q))[n]? with | some (.lst xs) => D.lst xs | _ => D.ref n) else D.ref n) = _
    rw [if_pos (by simpa using hn), hq]
  rw [e]
  unfold cutR
  rw [if_pos]
  · simp
  · refine ⟨h, by simp, fun i c' hi e => ?_⟩
    cases i with
    | zero => cases e; exact .inr (by simpa using hc)
    | succ i =>
      left
      have hi : i < r.length := by simpa using hi
      have e : (r ++ q)[i]? = some c' := by simpa using e
      rw [List.getElem?_append_left hi] at e
      simpa using e
/-- the cell at the head has changed -/
theorem leave_head {c0 : Cell} (h : lo (c0 :: r).length d = true) (hc : loC (c0 :: r).length c = true) {q : Store} : leave (c0 :: r) (.ret d (c :: (r ++ q))) = .ok d (c :: r) := by
  show cutR (c0 :: r) (frz (c0 :: r) d (c :: (r ++ q))) (c :: (r ++ q)) = _
  rw [frz_lo h]
  unfold cutR
  rw [if_pos]
  · simp
  · refine ⟨h, by simp, fun i c' hi e => ?_⟩
    cases i with
    | zero => cases e; exact .inr hc
    | succ i =>
      left
      have hi : i < r.length := by simpa using hi
      have e : (r ++ q)[i]? = some c' := by simpa using e
      rw [List.getElem?_append_left hi] at e
      simpa using e
theorem leave_headN {c0 : Cell} (hc : loC (c0 :: r).length c = true) {q : Store} : leave (c0 :: r) (.next ρ (c :: (r ++ q))) = .ok .non (c :: r) := leave_head (d := .non) rfl hc
@[simp] theorem leave_head1 {c0 : Cell} (h : lo (c0 :: r).length d = true) (hc : loC (c0 :: r).length c = true) : leave (c0 :: r) (.ret d (c :: r)) = .ok d (c :: r) := by
  have := leave_head (q := []) h hc
  rwa [List.append_nil] at this
theorem lo_ints {n : Nat} {ns : List Int} : loL n (ns.map .int) = true := lo_list fun x hx => by
  obtain ⟨i, _, rfl⟩ := List.mem_map.mp hx
  rfl
@[simp] theorem lo_int {n : Nat} {i : Int} : lo n (.int i) = true := Eq.trans rfl rfl
@[simp] theorem lo_bl {n : Nat} {b : Bool} : lo n (.bl b) = true := Eq.trans rfl rfl
@[simp] theorem lo_str {n : Nat} {x : Str} : lo n (.str x) = true := Eq.trans rfl rfl
@[simp] theorem lo_non {n : Nat} : lo n .non = true := Eq.trans rfl rfl
@[simp] theorem lo_tup {n : Nat} {xs : List D} : lo n (.tup xs) = loL n xs := Eq.trans rfl rfl
@[simp] theorem lo_lst {n : Nat} {xs : List D} : lo n (.lst xs) = loL n xs := Eq.trans rfl rfl
@[simp] theorem loL_nil {n : Nat} : loL n [] = true := Eq.trans rfl rfl
@[simp] theorem loL_cons {n : Nat} {x : D} {xs : List D} : loL n (x :: xs) = (lo n x && loL n xs) := Eq.trans rfl rfl
end

/-! ### loops -/
section
variable {it : ItD} {tg : Tgt} {body : DenS} {ks : List Nat} {ρ : Env} {st : Store}
/-- a loop that runs to its end -/
theorem for_all (P : Nat → Env → Store → Prop) : ∀ (l : List D) (m : Nat) (ρ : Env) (st : Store), P m ρ st → (∀ i ρ st, m ≤ i → i ≤ m + l.length → P i ρ st → it.still st) →
    (∀ i x ρ st, l[i]? = some x → P (m + i) ρ st → ∃ ρ2 s2, P (m + i + 1) ρ2 s2 ∧ ∀ k, (tgtO (tg x ρ) fun ρ' => turnO ks (body ρ' st) k) = k ρ2 s2) →
    ∃ ρ' st', P (m + l.length) ρ' st' ∧ forGo it tg body ks l ρ st = .next ρ' st'
  | [], m, ρ, st, h0, hst, _ => ⟨ρ, st, h0, by
    unfold forGo
    rw [if_pos (hst m ρ st (Nat.le_refl _) (Nat.le_add_right _ _) h0)]⟩
  | x :: l, m, ρ, st, h0, hst, hs => by
    obtain ⟨ρ2, s2, p, e⟩ := hs 0 x ρ st rfl h0
    obtain ⟨ρ', st', p', e'⟩ := for_all P l (m + 1) ρ2 s2 p (fun i ρ st h1 h2 => hst i ρ st (by omega) (by simp only [List.length_cons]; omega)) fun i x ρ st hx hp => by
      have := hs (i + 1) x ρ st (by simpa using hx)
      rw [show m + (i + 1) = m + 1 + i by omega] at this
      exact this hp
    refine ⟨ρ', st', by rw [List.length_cons, show m + (l.length + 1) = m + 1 + l.length by omega]; exact p', ?_⟩
    unfold forGo
    rw [if_pos (hst m ρ st (Nat.le_refl _) (Nat.le_add_right _ _) h0), e]
    exact e'
/-- over data that nobody changes -/
theorem for_pure (P : Nat → Env → Store → Prop) {l : List D} (h0 : P 0 ρ st) (hs : ∀ i x ρ st, l[i]? = some x → P i ρ st → ∃ ρ2 s2, P (i + 1) ρ2 s2 ∧ ∀ k, (tgtO (tg x ρ) fun ρ' => turnO ks (body ρ' st) k) = k ρ2 s2) :
    ∃ ρ' st', P l.length ρ' st' ∧ forGo ⟨l, none⟩ tg body ks l ρ st = .next ρ' st' := by
  have := for_all (it := ⟨l, none⟩) (tg := tg) (body := body) (ks := ks) P l 0 ρ st h0 (fun _ _ _ _ _ _ => trivial) fun i x ρ st hx hp => by
    rw [Nat.zero_add] at hp ⊢
    exact hs i x ρ st hx hp
  rwa [Nat.zero_add] at this
@[simp] theorem for_nil {l0 : List D} : forGo ⟨l0, none⟩ tg body ks [] ρ st = .next ρ st := if_pos trivial
@[simp] theorem for_cons {l0 l : List D} {x : D} : forGo ⟨l0, none⟩ tg body ks (x :: l) ρ st = tgtO (tg x ρ) fun ρ' => turnO ks (body ρ' st) fun ρ2 s2 => forGo ⟨l0, none⟩ tg body ks l ρ2 s2 := if_pos trivial
theorem range_at {lo : Int} {n i : Nat} {x : D} (h : (rangeD lo n)[i]? = some x) : i < n ∧ x = .int (lo + (i : Nat)) := by
  unfold rangeD at h
  rw [List.getElem?_map] at h
  by_cases hi : i < n
  · rw [List.getElem?_range hi] at h
    cases h
    exact ⟨hi, rfl⟩
  · rw [List.getElem?_eq_none (by simpa using hi)] at h
    cases h
@[simp] theorem range_length {lo : Int} {n : Nat} : (rangeD lo n).length = n := by unfold rangeD; simp
end

/-! ### comprehensions that only make a list -/
section
variable {it : ItD} {tg : Tgt} {tt : DenB} {elt : Den} {ρw : Env} {s0 : Store}
/-- what a turn gives: nothing, or an item -/
def turnC (tg : Tgt) (tt : DenB) (elt : Den) (ρw : Env) (s : Store) (x : D) (o : Option D) : Prop := ∃ ρ', tg x ρw = some ρ' ∧ match o with
  | none => tt ρ' s = .ok false s
  | some d => tt ρ' s = .ok true s ∧ elt ρ' s = .ok d s
theorem comp_go (f : D → Option D) (hsrc : it.src = none) : ∀ (l acc : List D), (∀ x ∈ l, ∀ s1, turnC tg tt elt ρw (s0 ++ [s1]) x (f x)) → loL s0.length (acc ++ l.filterMap f) = true → acc.length + l.length ≤ sizeLine →
    compGo it tg tt elt ρw s0 l acc (s0 ++ [.lst acc]) = .ok (.lst (acc ++ l.filterMap f)) s0
  | [], acc, _, hl, _ => by
    unfold compGo
    have hs : it.still (s0 ++ [.lst acc]) := by unfold ItD.still; rw [hsrc]; trivial
    rw [guardR_pos ⟨hs, by simp, by rw [List.getElem?_append_right (Nat.le_refl _)]; simp⟩]
    rw [List.filterMap_nil, List.append_nil] at hl ⊢
    exact cutR_app hl
  | x :: l, acc, h, hl, hsz => by
    unfold compGo
    have hs : it.still (s0 ++ [.lst acc]) := by unfold ItD.still; rw [hsrc]; trivial
    rw [guardR_pos hs]
    obtain ⟨ρ', e1, e2⟩ := h x (by simp) (.lst acc)
    rw [e1]
    cases hf : f x with
    | none =>
      rw [hf] at e2
      have e2 : tt ρ' (s0 ++ [.lst acc]) = .ok false (s0 ++ [.lst acc]) := e2
      simp only [tgtR_some, e2, noX_ok, bind_ok']
      rw [if_neg (by decide), guardR_pos (by simp)]
      have := comp_go f hsrc l acc (fun y hy => h y (by simp [hy])) (by simpa [hf] using hl) (by simp only [List.length_cons] at hsz; omega)
      rw [this]
      simp [hf]
    | some d =>
      rw [hf] at e2
      obtain ⟨e2, e3⟩ := (show tt ρ' (s0 ++ [.lst acc]) = .ok true (s0 ++ [.lst acc]) ∧ elt ρ' (s0 ++ [.lst acc]) = .ok d (s0 ++ [.lst acc]) from e2)
      simp only [tgtR_some, e2, e3, noX_ok, bind_ok']
      rw [if_pos trivial, guardR_pos ⟨by simp, by rw [List.getElem?_append_right (Nat.le_refl _)]; simp, by simp only [List.length_cons] at hsz; omega⟩]
      rw [show (s0 ++ [Cell.lst acc]).set s0.length (.lst (acc ++ [d])) = s0 ++ [.lst (acc ++ [d])] by rw [List.set_append_right _ _ (Nat.le_refl _)]; simp]
      have e4 : acc ++ [d] ++ l.filterMap f = acc ++ (x :: l).filterMap f := by simp [hf]
      have := comp_go f hsrc l (acc ++ [d]) (fun y hy => h y (by simp [hy])) (by rw [e4]; exact hl) (by simp only [List.length_cons, List.length_append, List.length_nil] at hsz ⊢; omega)
      rw [this, e4]
/-- [elt for x in l if ..] -/
theorem comp_filter {l : List D} (f : D → Option D) (h : ∀ x ∈ l, ∀ s1, turnC tg tt elt ρw (s0 ++ [s1]) x (f x)) (hl : loL s0.length (l.filterMap f) = true) (hsz : l.length ≤ sizeLine) : compGo ⟨l, none⟩ tg tt elt ρw s0 l [] (s0 ++ [.lst []]) = .ok (.lst (l.filterMap f)) s0 := by
  have := comp_go (it := ⟨l, none⟩) f rfl l [] h (by simpa using hl) (by simpa using hsz)
  simpa using this
/-- [elt for x in l] -/
theorem comp_map {l : List D} (f : D → D) (h : ∀ x ∈ l, ∀ s1, ∃ ρ', tg x ρw = some ρ' ∧ elt ρ' (s0 ++ [s1]) = .ok (f x) (s0 ++ [s1])) (hl : loL s0.length (l.map f) = true) (hsz : l.length ≤ sizeLine) : compGo ⟨l, none⟩ tg yesB elt ρw s0 l [] (s0 ++ [.lst []]) = .ok (.lst (l.map f)) s0 := by
  have := comp_filter (tg := tg) (tt := yesB) (elt := elt) (ρw := ρw) (s0 := s0) (l := l) (fun x => some (f x)) (fun x hx s1 => by
    obtain ⟨ρ', e1, e2⟩ := h x hx s1
    exact ⟨ρ', e1, rfl, e2⟩) (by simpa using hl) hsz
  simpa using this
end
end DL

namespace DL
open PySem PySem.Spec PyProof.Rows L2 PySem.W

/-! ### sorted(..) -/
def tupish : D → Bool
  | .tup (_ :: _) => true
  | _ => false
def flat : D → Bool
  | .int _ => true
  | .str _ => true
  | _ => false
def sortOk (xs : List D) : Bool := (xs.all fun a => xs.all fun b => alike (toPy a) (toPy b)) && (xs.all (fun d => fits d 60) && (xs.all tupish || xs.all flat))
def sortL (xs : List D) : List D := xs.mergeSort (dataLe false toPy)
section
variable {G : Gm} {W : WX} {X : Cx} {k : Nat} {α : List Addr} {H : Hp} {st : Store}
theorem sortOk_alike {xs : List D} (h : sortOk xs = true) : AllAlike (xs.map toPy) := by
  have h := (Bool.and_eq_true_iff.mp h).1
  intro d hd d' hd'
  obtain ⟨a, ha, rfl⟩ := List.mem_map.mp hd
  obtain ⟨b, hb, rfl⟩ := List.mem_map.mp hd'
  exact List.all_eq_true.mp (List.all_eq_true.mp h a ha) b hb
theorem sortOk_fits {xs : List D} (h : sortOk xs = true) {d : D} (m : d ∈ xs) : fits d 60 = true :=
  List.all_eq_true.mp (Bool.and_eq_true_iff.mp (Bool.and_eq_true_iff.mp h).2).1 d m
theorem sortOk_kind {xs : List D} (h : sortOk xs = true) : Sortable (xs.map toPy) := by
  have h := (Bool.and_eq_true_iff.mp (Bool.and_eq_true_iff.mp h).2).2
  rcases Bool.or_eq_true_iff.mp h with h | h
  · left
    intro d hd
    obtain ⟨a, ha, rfl⟩ := List.mem_map.mp hd
    have := List.all_eq_true.mp h a ha
    cases a with
    | tup ys => cases ys with
      | nil => cases this
      | cons y ys => exact ⟨_, _, rfl⟩
    | _ => cases this
  · right
    intro d hd
    obtain ⟨a, ha, rfl⟩ := List.mem_map.mp hd
    have := List.all_eq_true.mp h a ha
    cases a <;> first | cases this; done | exact ⟨by simp [toPy], by simp [toPy]⟩
/-- a value that stands for a datum -/
def Stands (G : Gm) (α : List Addr) (H : Hp) (v : Value) (d : D) : Prop := ∃ x : V, RelV x v ∧ Rep G.K α H d x
theorem stands_of : ∀ {xs : List D} {vs : List V} {us : List Value}, RepL G.K α H xs vs → Vals vs us → EachIs (Stands G α H) us xs
  | [], _, _, r, v => by
    cases (show _ = [] from r)
    cases v
    exact .nil
  | x :: xs, _, _, r, v => by
    obtain ⟨y, ys, rfl, h1, h2⟩ := (show ∃ v r, _ ∧ Rep G.K α H x v ∧ RepL G.K α H xs r from r)
    cases v with
    | cons a b => exact .cons ⟨y, a, h1⟩ (stands_of h2 b)
theorem stands_back : ∀ {xs : List D} {us : List Value}, EachIs (Stands G α H) us xs → ∃ vs, Vals vs us ∧ RepL G.K α H xs vs
  | [], _, e => by
    cases e
    exact ⟨[], .nil, rfl⟩
  | x :: xs, _, e => by
    cases e with
    | cons a b =>
      obtain ⟨y, h1, h2⟩ := a
      obtain ⟨vs, h3, h4⟩ := stands_back b
      exact ⟨y :: vs, .cons h1 h3, .cons h2 h4⟩
theorem reads_of {pins : List (Addr × Obj)} {σ : L2.St} {s : Shared} (hK : X.K = G.K) (I : Inv X pins σ H s) : ∀ {xs : List D} {us : List Value}, (∀ d ∈ xs, fits d 60 = true) → EachIs (Stands G α H) us xs → EachIs (fun v d => ∃ as, Reads s.heap v (toPy d) as) us xs
  | [], _, _, e => by
    cases e
    exact .nil
  | x :: xs, _, hf, e => by
    cases e with
    | cons a b =>
      obtain ⟨y, h1, h2⟩ := a
      have q := (dp_of x 60 y (hf x (by simp)) h2).1
      rw [← hK] at q
      exact .cons (Dp.reads I _ y _ q h1) (reads_of hK I (fun d m => hf d (by simp [m])) b)
theorem bt_sorted : bootBuiltins "sorted" = some (.builtin "sorted") := by decide +kernel
end
end DL

namespace DL
open PySem PySem.Spec PyProof.Rows L2

/-! ### methods that only look: count, index -/
abbrev MC := List D → List D → Option D
def mcR (o : MC) (x : D) (ds : List D) (s : Store) : Option D := (view s x).bind fun xs => o xs ds
def mcE (o : MC) (f : Den) (g : DenL) : Den := fun ρ st => (f ρ st).bind fun x s => guardR ((view s x).isSome = true) ((g ρ s).bind fun ds s2 => Res.of (mcR o x ds s2) s2)
def countO : MC := fun xs ds => match ds with
  | [d] => if fits d 60 && fitsL xs 60 then some (.int (xs.countP fun y => D.eqv y d)) else none
  | _ => none
def indexO : MC := fun xs ds => match ds with
  | [d] => if fits d 60 && fitsL xs 60 then (xs.findIdx? fun y => D.eqv y d).map fun (j : Nat) => .int j else none
  | _ => none
/-- what a look does at a list, at a tuple -/
def LookL (G : Gm) (X : Cx) (id : String) (o : MC) : Prop := MtR X id fun x vs H Q => ∃ (a : Addr) (ws : List V) (xs ds : List D) (α : List Addr) (st : Store), SR G α st H ∧ x = .ref a ∧ SqL X.K H a ws ∧ RepL G.K α H xs ws ∧ RepL G.K α H ds vs ∧ got G α H st (o xs ds) Q
def LookT (G : Gm) (X : Cx) (id : String) (o : MC) : Prop := MtR X id fun x vs H Q => ∃ (a : Addr) (ws : List V) (xs ds : List D) (α : List Addr) (st : Store), SR G α st H ∧ x = .ref a ∧ SqT X.K H a ws ∧ RepL G.K α H xs ws ∧ RepL G.K α H ds vs ∧ got G α H st (o xs ds) Q
section
variable {G : Gm} {W : WX} {X : Cx} {k : Nat} {α : List Addr} {H : Hp} {st : Store} {pins : List (Addr × Obj)} {σ : L2.St} {s : Shared}
theorem reads_all (hK : X.K = G.K) (I : Inv X pins σ H s) {xs : List D} {ws : List V} {its : List Value} {n : Nat} (hf : fitsL xs n = true) (r : RepL G.K α H xs ws) (rv : Vals ws its) : PyData.canLayAll0 (toPyL xs) = true ∧ PyData.depthAll (toPyL xs) ≤ n ∧ ∃ as, ReadsAll s.heap its (toPyL xs) as := by
  obtain ⟨h1, h2⟩ := dpL_of xs n ws hf r
  rw [← hK] at h1
  exact ⟨h2, depth_toPyL xs n hf, Dp.readsAll I _ ws its h1 rv⟩
theorem reads_one (hK : X.K = G.K) (I : Inv X pins σ H s) {d : D} {v : V} {u : Value} {n : Nat} (hf : fits d n = true) (r : Rep G.K α H d v) (rv : RelV v u) : PyData.canLay0 (toPy d) = true ∧ (toPy d).depth ≤ n ∧ ∃ as, Reads s.heap u (toPy d) as := by
  obtain ⟨h1, h2⟩ := dp_of d n v hf r
  rw [← hK] at h1
  exact ⟨h2, depth_toPy d n hf, Dp.reads I _ v u h1 rv⟩
theorem toPyL_map : ∀ xs : List D, toPyL xs = xs.map toPy
  | [] => rfl
  | x :: xs => by
    show toPy x :: toPyL xs = _
    rw [toPyL_map xs, List.map_cons]
theorem count_py (xs : List D) (d : D) : ((toPyL xs).countP fun y => PyData.eqv y (toPy d)) = xs.countP fun y => D.eqv y d := by
  rw [toPyL_map, List.countP_map]
  rfl
theorem look_countL (C : Cm G X W k) : LookL G X "list.count" countO := by
  intro pins s σ H x vs v us Q I rx rv ⟨a, ws, xs, ds, α, st, S, ex, hs, r1, r2, g⟩
  subst ex
  unfold countO at g
  split at g
  · rename_i d
    split at g
    · rename_i hf
      obtain ⟨f1, f2⟩ := Bool.and_eq_true_iff.mp hf
      obtain ⟨w, rfl, rw'⟩ := r2.one
      obtain ⟨u, rfl, ru⟩ := vals1 rv
      cases rx
      obtain ⟨its, rv2, pl, hz⟩ := I.list hs
      obtain ⟨c1, d1, as, q1⟩ := reads_all C.K I f2 r1 rv2
      obtain ⟨c2, d2, bs, q2⟩ := reads_one C.K I f1 rw' ru
      have hu := C.room.units
      refine PySem.SeqAt.count_list_data (vs := its.toArray) pl.isList q1 q2 (PyData.plainAll_of_canLay0 _ c1) (PyData.plain_of_canLay0 _ c2) (by omega) ?_
      rw [count_py]
      exact ⟨.int _, H, I.tok _, ⟨_, rfl⟩, got.here (d := .int _) S rfl g⟩
    · exact g.elim
  · exact g.elim
theorem look_countT (C : Cm G X W k) : LookT G X "tuple.count" countO := by
  intro pins s σ H x vs v us Q I rx rv ⟨a, ws, xs, ds, α, st, S, ex, hs, r1, r2, g⟩
  subst ex
  unfold countO at g
  split at g
  · rename_i d
    split at g
    · rename_i hf
      obtain ⟨f1, f2⟩ := Bool.and_eq_true_iff.mp hf
      obtain ⟨w, rfl, rw'⟩ := r2.one
      obtain ⟨u, rfl, ru⟩ := vals1 rv
      cases rx
      obtain ⟨its, rv2, pl, hz⟩ := I.tuple hs
      obtain ⟨c1, d1, as, q1⟩ := reads_all C.K I f2 r1 rv2
      obtain ⟨c2, d2, bs, q2⟩ := reads_one C.K I f1 rw' ru
      have hu := C.room.units
      refine PySem.SeqAt.count_tuple_data (vs := its.toArray) pl q1 q2 (PyData.plainAll_of_canLay0 _ c1) (PyData.plain_of_canLay0 _ c2) (by omega) ?_
      rw [count_py]
      exact ⟨.int _, H, I.tok _, ⟨_, rfl⟩, got.here (d := .int _) S rfl g⟩
    · exact g.elim
  · exact g.elim
/-- the first place of an equal one, by values -/
theorem find_at {its : List Value} {xs : List D} {d : D} {as : List Addr} {h : Heap} {j : Nat} (hr : ReadsAll h its (toPyL xs) as) (hc : PyData.canLayAll0 (toPyL xs) = true) (hj : (xs.findIdx? fun y => D.eqv y d) = some j) :
    ∃ hl : j < its.toArray.size, PyData.eqv (SeqAt.readOf h its.toArray[j]) (toPy d) = true ∧ ∀ m (hm : m < its.toArray.size), m < j → PyData.eqv (SeqAt.readOf h its.toArray[m]) (toPy d) = false := by
  have hmap : its.map (SeqAt.readOf h) = xs.map toPy := by rw [← toPyL_map]; exact SeqAt.readsAll_map _ its as hc hr
  have hlen : its.length = xs.length := by simpa using congrArg List.length hmap
  obtain ⟨h1, h2, h3⟩ := List.findIdx?_eq_some_iff_getElem.mp hj
  have at_ : ∀ m (hm : m < its.toArray.size), SeqAt.readOf h its.toArray[m] = toPy (xs[m]'(by simp at hm; omega)) := fun m hm => by
    have hm' : m < its.length := by simpa using hm
    have e : (its.map (SeqAt.readOf h))[m]? = (xs.map toPy)[m]? := by rw [hmap]
    rw [List.getElem?_map, List.getElem?_map, List.getElem?_eq_getElem hm', List.getElem?_eq_getElem (show m < xs.length by omega)] at e
    simpa using e
  refine ⟨by simp; omega, ?_, fun m hm hmj => ?_⟩
  · rw [at_]
    exact h2
  · rw [at_ m hm]
    have := h3 m hmj
    simpa [D.eqv] using this
theorem look_indexL (C : Cm G X W k) : LookL G X "list.index" indexO := by
  intro pins s σ H x vs v us Q I rx rv ⟨a, ws, xs, ds, α, st, S, ex, hs, r1, r2, g⟩
  subst ex
  unfold indexO at g
  split at g
  · rename_i d
    split at g
    · rename_i hf
      obtain ⟨f1, f2⟩ := Bool.and_eq_true_iff.mp hf
      obtain ⟨w, rfl, rw'⟩ := r2.one
      obtain ⟨u, rfl, ru⟩ := vals1 rv
      cases rx
      obtain ⟨its, rv2, pl, hz⟩ := I.list hs
      obtain ⟨c1, d1, as, q1⟩ := reads_all C.K I f2 r1 rv2
      obtain ⟨c2, d2, bs, q2⟩ := reads_one C.K I f1 rw' ru
      have hu := C.room.units
      cases hj : xs.findIdx? fun y => D.eqv y d with
      | none => rw [hj] at g; exact g.elim
      | some j =>
        rw [hj] at g
        obtain ⟨hl, e1, e2⟩ := find_at q1 c1 hj
        obtain ⟨⟨cls, dd, data, sls⟩, n, ho, hc, hdn, hdt⟩ := pl
        simp only at hc hdt
        subst hc hdt
        have hvl := rv2.length
        have hsl := sizeLine_eq
        have hl' : j < its.length := by simpa using hl
        exact call_meets PySem.F.slot_list_index ⟨_, ho, rfl⟩ PySem.F.entry_list_index (PySem.F.args_list_index_2 _ _) (SeqAt.list_indexAt a its.toArray n dd sls u (fun z => PyData.eqv (SeqAt.readOf s.heap z) (toPy d)) j hl (by omega) e1 e2)
          ⟨ho, SeqAt.items_eqAt (vs := its.toArray) (show ReadsAll s.heap its.toArray.toList _ as from q1) q2 c1 c2 (by omega), ⟨.int (j : Nat), H, I.tok _, ⟨_, rfl⟩, got.here (d := .int _) S rfl g⟩⟩
    · exact g.elim
  · exact g.elim
theorem look_indexT (C : Cm G X W k) : LookT G X "tuple.index" indexO := by
  intro pins s σ H x vs v us Q I rx rv ⟨a, ws, xs, ds, α, st, S, ex, hs, r1, r2, g⟩
  subst ex
  unfold indexO at g
  split at g
  · rename_i d
    split at g
    · rename_i hf
      obtain ⟨f1, f2⟩ := Bool.and_eq_true_iff.mp hf
      obtain ⟨w, rfl, rw'⟩ := r2.one
      obtain ⟨u, rfl, ru⟩ := vals1 rv
      cases rx
      obtain ⟨its, rv2, pl, hz⟩ := I.tuple hs
      obtain ⟨c1, d1, as, q1⟩ := reads_all C.K I f2 r1 rv2
      obtain ⟨c2, d2, bs, q2⟩ := reads_one C.K I f1 rw' ru
      have hu := C.room.units
      cases hj : xs.findIdx? fun y => D.eqv y d with
      | none => rw [hj] at g; exact g.elim
      | some j =>
        rw [hj] at g
        obtain ⟨hl, e1, e2⟩ := find_at q1 c1 hj
        obtain ⟨⟨cls, dd, data, sls⟩, ho, hc, n, hdt⟩ := pl
        simp only at hc hdt
        subst hc hdt
        exact call_meets PySem.F.slot_tuple_index ⟨_, ho, rfl⟩ PySem.F.entry_tuple_index (PySem.F.args_tuple_index_2 _ _) (TI.tuple_indexAt a its.toArray n dd sls u (fun z => PyData.eqv (SeqAt.readOf s.heap z) (toPy d)) j hl e1 e2)
          ⟨ho, SeqAt.items_eqAt (vs := its.toArray) (show ReadsAll s.heap its.toArray.toList _ as from q1) q2 c1 c2 (by omega), ⟨.int (j : Nat), H, I.tok _, ⟨_, rfl⟩, got.here (d := .int _) S rfl g⟩⟩
    · exact g.elim
  · exact g.elim
theorem view_list (S : SR G α st H) {d : D} {v : V} {xs : List D} (nt : ∀ ys, d ≠ .tup ys) (r : Rep G.K α H d v) (e : view st d = some xs) : ∃ a vs, v = .ref a ∧ SqL G.K H a vs ∧ RepL G.K α H xs vs := by
  cases d with
  | tup ys => exact absurd rfl (nt ys)
  | lst ys =>
    obtain ⟨a, vs, e1, t, q⟩ := viewL_ok S (d := .lst ys) (xs := xs) r e
    exact ⟨a, vs, e1, .of t, q⟩
  | ref n =>
    obtain ⟨a, vs, e1, t, q⟩ := viewL_ok S (d := .ref n) (xs := xs) r e
    exact ⟨a, vs, e1, .of t, q⟩
  | scr ns =>
    obtain ⟨a, e1, t⟩ := (show ∃ a, v = V.ref a ∧ ScrAt G.K α H a (ns.map V.int) from r)
    cases (show some (ns.map D.int) = some xs from e)
    exact ⟨a, _, e1, t.seq, RepL.ints ns⟩
  | _ => cases e
theorem bare_of (I : Inv X pins σ H s) {a : Addr} {vs : List V} (t : TupAt X.K α H a vs) : s.TypeIs (.ref a) "tuple" ∧ ∀ b, Value.ref a = .ref b → ∃ ob, s.heap.get? b = some ob ∧ ob.dict = none := by
  rcases t with ⟨_, o, h, e⟩ | ⟨o, its, n, h, hc, _, _, _, e⟩
  · obtain ⟨ho, _, its, _, ⟨o', ho', hc, _⟩⟩ := (show s.heap.get? a = some o ∧ ObjOk X.prog X.w H s.heap a (.tup vs) from I.hok a _ h)
    rw [ho] at ho'
    cases ho'
    exact ⟨⟨o, ho, hc⟩, fun b z => by cases z; exact ⟨o, ho, e⟩⟩
  · exact ⟨⟨o, I.kIn a o h, hc⟩, fun b z => by cases z; exact ⟨o, I.kIn a o h, e⟩⟩
variable {o e : Expr} {es : List Expr} {f : Den} {g : DenL} {name : Str} {apos cpos : Pos} {idL idT : String} {m : MC}
theorem pe_bmT {to : TE} {t : TA} {r : V → List V → Hp → VK → Prop} (slot : Slot "tuple" name idT) (hty : typeOf (.builtin idT) = pure (.type "method_descriptor")) (hm : MtR X idT r) (ho : PE X o to) (ha : PA X (e :: es) t)
    (hbase : attributeBase o name X.env (eval o X.env) = eval o X.env) (hline : (apos.endLine == cpos.line) = true)
    (hfew : ((backTo cpos (starEach (e :: es) X.env)).all (fun x => !x.1) && (backToKw cpos (keywordEach [] X.env)).all (fun x => x.1.isSome) && decide ((e :: es).length + ([] : List Keyword).length + (if ([] : List Keyword).isEmpty then 0 else 1) < 30)) = true)
    (hs : starEach (e :: es) X.env = (false, eval e X.env) :: starEach es X.env) (hplain : (backTo cpos (starEach es X.env)).any (·.1) = false) :
    PE X (.Call (.Attribute o name apos) (e :: es) [] cpos) (fun σ H Q => to σ H fun x H1 => (∃ (a : Addr) (vs : List V) (α : List Addr), x = .ref a ∧ TupAt X.K α H1 a vs) ∧ t σ H1 fun xs H2 => r x xs H2 Q) := by
  constructor
  intro pins s σ H Q I h
  refine wpAny_Call_method_late hbase hfew hline rfl (thn (ho.run pins s σ H _ I h) ?_)
  rintro v s1 ⟨x, H1, J, r1, ⟨a, vs, α, rfl, ht⟩, q⟩
  cases r1
  obtain ⟨b1, b2⟩ := bare_of J ht
  have args := ha.run cpos pins s1 σ H1 _ J q
  rw [hs] at args ⊢
  refine ⟨"tuple", idT, PySem.F.plainAttrs_tuple, slot, hty, b1, b2, Calls.callWith_builtin (by show (false || (backTo cpos (starEach es X.env)).any (·.1)) = false; rw [hplain] <;> rfl) (Calls.evalArgs_plain (thn args ?_))⟩
  rintro us s2 ⟨ws, H2, J2, r2, q2⟩
  exact hm pins s2 σ H2 (.ref a) ws _ us Q J2 rfl r2 q2
/-- o.m(e, ..), o a list or a tuple that only is looked at -/
theorem de_mc (C : Cm G X W k) (slotL : Slot "list" name idL) (tyL : typeOf (.builtin idL) = pure (.type "method_descriptor")) (hL : LookL G X idL m) (slotT : Slot "tuple" name idT) (tyT : typeOf (.builtin idT) = pure (.type "method_descriptor")) (hT : LookT G X idT m)
    (ho : DE G X W o f) (ha : DA G X W (e :: es) g)
    (hbase : attributeBase o name X.env (eval o X.env) = eval o X.env) (hline : (apos.endLine == cpos.line) = true)
    (hfew : ((backTo cpos (starEach (e :: es) X.env)).all (fun x => !x.1) && (backToKw cpos (keywordEach [] X.env)).all (fun x => x.1.isSome) && decide ((e :: es).length + ([] : List Keyword).length + (if ([] : List Keyword).isEmpty then 0 else 1) < 30)) = true)
    (hs : starEach (e :: es) X.env = (false, eval e X.env) :: starEach es X.env) (hplain : (backTo cpos (starEach es X.env)).any (·.1) = false) :
    DE G X W (.Call (.Attribute o name apos) (e :: es) [] cpos) (mcE m f g) := by
  constructor
  constructor
  intro pins s σ H Q I hq
  obtain ⟨ρ, st, α, E, S, q⟩ := hq
  unfold mcE at q
  by_cases ht : ∃ xs s1, f ρ st = .ok (.tup xs) s1
  · obtain ⟨xs, s1, hf⟩ := ht
    refine (pe_bmT slotT tyT hT ho.pe ha.pa hbase hline hfew hs hplain).run pins s σ H Q I ⟨ρ, st, α, E, S, ?_⟩
    rw [hf] at q ⊢
    intro x α1 H1 l S1 R
    obtain ⟨a, vs, rfl, t, r⟩ := R.tupOf
    replace q : post G W (Rep G.K) α1 H1 (guardR ((view s1 (.tup xs)).isSome = true) ((g ρ s1).bind fun ds s2 => Res.of (mcR m (.tup xs) ds s2) s2)) σ Q := post.mono l q
    obtain ⟨_, q⟩ := guardR_post q
    refine ⟨⟨a, vs, α1, rfl, by rw [C.K]; exact t⟩, ρ, s1, α1, E.mono l, S1, (post.step (rp := RepL G.K) q).imp fun us H2 ⟨ds, s2, α2, l2, S2, R2, q2⟩ => ?_⟩
    exact ⟨a, vs, xs, ds, α2, s2, S2, rfl, by rw [C.K]; exact (t.mono l2).seq, r.mono l2, R2, got.of q2⟩
  · refine (pe_bm PySem.F.plainAttrs_list slotL tyL hL ho.pe ha.pa hbase hfew hline hs hplain).run pins s σ H Q I ⟨ρ, st, α, E, S, ?_⟩
    cases hf : f ρ st with
    | stuck => rw [hf] at q; exact q
    | exc c s1 => rw [hf] at q; exact q
    | ok d s1 =>
      rw [hf] at q
      intro x α1 H1 l S1 R
      replace q : post G W (Rep G.K) α1 H1 (guardR ((view s1 d).isSome = true) ((g ρ s1).bind fun ds s2 => Res.of (mcR m d ds s2) s2)) σ Q := post.mono l q
      obtain ⟨hv, q⟩ := guardR_post q
      cases hvs : view s1 d with
      | none => rw [hvs] at hv; cases hv
      | some xs =>
        have nt : ∀ ys, d ≠ .tup ys := fun ys z => ht ⟨ys, s1, by rw [hf, z]⟩
        obtain ⟨a, vs, rfl, tL, r⟩ := view_list S1 nt R hvs
        refine ⟨.inl ⟨rfl, vs, by rw [C.K]; exact tL⟩, ρ, s1, α1, E.mono l, S1, (post.step (rp := RepL G.K) q).imp fun us H2 ⟨ds, s2, α2, l2, S2, R2, q2⟩ => ?_⟩
        have g2 := got.of q2
        unfold mcR at g2
        cases hv2 : view s2 d with
        | none => rw [hv2] at g2; exact g2.elim
        | some ys =>
          rw [hv2] at g2
          obtain ⟨b, ws, e1, t2, r2⟩ := view_list S2 nt (R.mono l2) hv2
          cases e1
          exact ⟨_, ws, ys, ds, α2, s2, S2, rfl, by rw [C.K]; exact t2, r2, R2, g2⟩
end
end DL

namespace DL
open PySem PySem.Spec PyProof.Rows L2

/-! ### enumerate(t), t a tuple -/
set_option maxHeartbeats 1000000 in
theorem enum_newT (t : Addr) (xs : Array Value) :
    Meets (Builtin.«enumerate.__new__» ⟨[.type "enumerate", .ref t], []⟩) (fun _ R s => s.heap.IsTuple t xs ∧
      R (.ok (.ret (.ref (s.heap.push { cls := .type "tuple_iterator", data := .fields #[.ref t, .int 0 0] }).objs.size)))
        { s with heap := (s.heap.push { cls := .type "tuple_iterator", data := .fields #[.ref t, .int 0 0] }).push { cls := .type "enumerate", data := .fields #[.none, .bool false, .ref s.heap.objs.size, rawInt 0, .none, .none] } }) :=
  .of_wp fun prog w A R s h => by
    obtain ⟨hp, g, d, tk, os⟩ := s
    obtain ⟨hT, h⟩ := h
    have same := sub_enumerate
    wp_walk
    refine wpAny_stack_any fun st => wpAny_pure ?_
    split
    · rename_i c _ _ _ _ _
      cases (c == Value.type "enumerate") <;> wp_walk using wpAny_pyIter_tuple hT <;> exact ⟨_, rfl, h⟩
    · wp_walk using wpAny_pyIter_tuple hT
      exact ⟨_, rfl, h⟩
section
variable {prog : Program} {w : World} {A : Around} {E : Value → Shared → Prop} {s : Shared}
theorem call_enumT {t : Addr} {xs : Array Value} {Q : Value → Shared → Prop} (hT : s.heap.IsTuple t xs)
    (q : ∀ h1, IsEnum h1 (s.heap.objs.size + 1) s.heap.objs.size 0 .none → h1.IsTupleIter s.heap.objs.size t 0 → (∀ b o, s.heap.get? b = some o → h1.get? b = some o) → Q (.ref (s.heap.objs.size + 1)) { s with heap := h1 }) :
    wpAny (model prog w) A (call (.type "enumerate") [.ref t]) Q E s := by
  have size : (s.heap.push { cls := .type "tuple_iterator", data := .fields #[.ref t, .int 0 0] }).objs.size = s.heap.objs.size + 1 := Heap.size_push ..
  have there := Heap.get?_push_size (s.heap.push { cls := .type "tuple_iterator", data := .fields #[.ref t, .int 0 0] }) (o := { cls := .type "enumerate", data := .fields #[.none, .bool false, .ref s.heap.objs.size, rawInt 0, .none, .none] }) rfl
  rw [size] at there
  refine callType_new F.called_enumerate (by decide) (F.typeCall_enumerate_1 _) (F.newCall_enumerate_1 _) (fun obj => F.args_object_init_2 obj _) F.entry_enumerate_new (enum_newT t xs) ⟨hT, ?_⟩
  show _ ∧ _
  rw [size]
  exact ⟨⟨_, there, rfl⟩, q _ there ⟨_, Heap.get?_push_of_some _ (Heap.get?_push_size _ rfl), rfl, rfl⟩ fun b o z => Heap.get?_push_of_some _ (Heap.get?_push_of_some _ z)⟩
end
theorem drawsT {prog : Program} {w : World} {A : Around} (hA : A.handled = none) (it t : Addr) (ne : t ≠ it) (xs : Array Value) : Draws prog w A it [it, t] xs.size (fun i v => xs[i]? = some v) (fun i h => h.IsTupleIter it t i ∧ h.IsTuple t xs) where
  live := fun _ _ st => let ⟨o, ho, _⟩ := st.1; ⟨o, ho⟩
  frame := fun _ _ _ st hk => ⟨st.1.at fun o e => hk it (by simp) o e, let ⟨o, ho, r⟩ := st.2; ⟨o, hk t (by simp) o ho, r⟩⟩
  item := fun i s Q E hi st hQ => by
    refine RZ.nextOf_tuple_item st.1 st.2 (x := xs[i]) (by simp [hi]) fun h' hit' hs' => ?_
    obtain ⟨o, ho, r⟩ := st.2
    exact hQ _ h' s.toks (by simp [hi]) ⟨hit', ⟨o, hs'.extBut t o ne ho, r⟩⟩ hs'
  done := fun s Q E st hE => RZ.nextOf_tuple_end hA st.1 st.2 (by simp) hE
/-- behind the last one -/
theorem drawsE {prog : Program} {w : World} {A : Around} (hA : A.handled = none) (it t : Addr) (xs : Array Value) (n : Nat) (hn : xs[n]? = none) : Draws prog w A it [it, t] n (fun _ _ => True) (fun i h => i = n ∧ h.IsTupleIter it t n ∧ h.IsTuple t xs) where
  live := fun _ _ st => let ⟨o, ho, _⟩ := st.2.1; ⟨o, ho⟩
  frame := fun _ _ _ st hk => ⟨st.1, st.2.1.at fun o e => hk it (by simp) o e, let ⟨o, ho, r⟩ := st.2.2; ⟨o, hk t (by simp) o ho, r⟩⟩
  item := fun i s Q E hi st hQ => absurd st.1 (Nat.ne_of_lt hi)
  done := fun s Q E st hE => RZ.nextOf_tuple_end hA st.2.1 st.2.2 hn hE
/-- the tuple at a, each item in a new pair -/
def IteT (K : PySem.W.Frag) (a : Addr) : It where
  go := fun i H => ∃ (xs : List V) (x : V), SqT K H a xs ∧ xs[i]? = some x
  yld := fun i H v H' => ∃ T x, v = .ref T ∧ H T = none ∧ H' = upd H T (.tup [.int (i : Nat), x]) ∧ ∀ xs, SqT K H a xs → xs[i]? = some x
  stop := fun i H => ∃ xs : List V, SqT K H a xs ∧ xs.length ≤ i
theorem enum_two {e it b : Addr} (h : b ∈ [e, it]) : b = e ∨ b = it := by simpa using h
theorem turn_enumT {P : Program} {w : World} {K : PySem.W.Frag} {elts : List Expr} {kk : Nat} {tpos : Pos} (a e it : Addr) (ai : a ≠ it) (ae : a ≠ e) :
    Turn P w K (.Tuple elts kk tpos) (IteT K a) [e, it] e (fun i h => (∃ old, IsEnum h e it ((i : Nat) : Int) old) ∧ h.IsTupleIter it a i ∧ e ≠ it) where
  mem := by simp
  obj := fun i h st b hb => by
    obtain ⟨⟨old, he⟩, ⟨o, ho, _, hd⟩, _⟩ := st
    rcases enum_two hb with rfl | rfl
    · exact ⟨_, he, fun v q => nomatch q⟩
    · exact ⟨o, ho, fun v q => by rw [hd] at q; cases q⟩
  keep := fun i h h' ⟨⟨old, he⟩, hi, ne⟩ k => ⟨⟨old, k e (by simp) _ he⟩, hi.at fun o q => k it (by simp) o q, ne⟩
  item := by
    rintro X rfl rfl rfl hc i pins s σ H E I hf ⟨⟨old, he⟩, hit, ne⟩ ⟨xs, x, hq, hx⟩
    obtain ⟨its, rv, p, few⟩ := I.tuple hq
    obtain ⟨u, hu, ru⟩ := rv.get hx
    have lenI : i < its.toArray.size := by
      have := (List.getElem?_eq_some_iff.mp hu).1
      simpa using this
    have le : e < s.heap.objs.size := Heap.lt_size he
    have lit : it < s.heap.objs.size := by obtain ⟨_, q, _⟩ := hit; exact Heap.lt_size q
    have p' : s.heap.IsTuple a its.toArray := p
    refine wpAny_pyNext_enum_itemD (drawsT (A := X.A.in1) (prog := X.prog) (w := X.w) (I.ok.hd hc) it a ai its.toArray) he ⟨hit, p'⟩ lenI ne (fun z => (List.mem_cons.mp z).elim ne fun z => ae (List.mem_singleton.mp z).symm) fun y h1 tk py he1 st1 hT size keep => ?_
    have ey : y = u := by
      have e1 : its.toArray[i]? = some u := by simpa using hu
      rw [e1] at py
      exact (Option.some.inj py).symm
    subst ey
    refine ⟨_, rfl, wpAny_letOwnedTupleGo_enum (s := { s with heap := h1, toks := tk + 1 }) he1 fun h2 he2 same => ?_⟩
    have hT2 : h2.get? s.heap.objs.size = some { cls := .type "tuple", data := .seq #[.int i tk, y] } := (same.2 _ (Nat.ne_of_gt le)).trans hT
    have J : Inv X pins σ (upd H s.heap.objs.size (.tup [.int (i : Nat), x])) { s with heap := h2, toks := tk + 1 } :=
      I.turnedNew (ch := [e, it]) (fun b ob hb q => (same.2 b (fun z => hb (by simp [z]))).trans (keep b ob (fun z => hb (by simp [z])) (fun z => hb (by simp [z])) q)) hf (Nat.le_refl _)
        ⟨by show 2 ≤ sizeLine; decide, [.int i tk, y], .cons ⟨_, rfl⟩ (.cons ru .nil), ⟨_, hT2, rfl, _, rfl⟩⟩
    refine ⟨.ref s.heap.objs.size, _, J, rfl, ⟨_, x, rfl, I.hok.fresh (Nat.le_refl _), rfl, fun ys hy => by rw [I.tuple_inj hy hq]; exact hx⟩, ⟨⟨y, ?_⟩, st1.1.at fun o q => (same.2 it (Ne.symm ne)).trans q, ne⟩, fun b hb => ?_⟩
    · rw [show ((i + 1 : Nat) : Int) = (i : Int) + 1 by omega]
      exact he2
    · rw [upd_ne (Nat.ne_of_lt ((enum_two hb).elim (fun z => by rw [z]; exact le) fun z => by rw [z]; exact lit))]
      exact (hf b hb).1
  done := by
    rintro X rfl rfl rfl hc i pins s σ H E I hf ⟨⟨old, he⟩, hit, ne⟩ ⟨xs, hq, hx⟩
    obtain ⟨its, rv, p, few⟩ := I.tuple hq
    obtain ⟨f0, f1, f2, f3, f4, f5⟩ := hf it (by simp)
    have len := rv.length
    exact wpAny_pyNext_enum_endD (drawsE (A := X.A.in1) (prog := X.prog) (w := X.w) (I.ok.hd hc) it a its.toArray i (by simp; omega)) he ⟨rfl, hit, p⟩ fun h1 ext => ⟨rfl, I.turned (t' := s.toks) (fun b o hb q => ext b o hb q) f0 f1 f3 f4 f5⟩
  self := fun A i s Q E st h => let ⟨⟨_, he⟩, _⟩ := st; wpAny_pyIter_enum he h
def pairsN (xs : List D) : List D := xs.zipIdx.map fun p => .ltp [.int p.2, p.1]
theorem pairsN_at {xs : List D} {i : Nat} {x0 : D} (e : (pairsN xs)[i]? = some x0) : ∃ x, xs[i]? = some x ∧ x0 = .ltp [.int i, x] := by
  unfold pairsN at e
  rw [List.getElem?_map, List.getElem?_zipIdx] at e
  cases h : xs[i]? with
  | none => rw [h] at e; cases e
  | some x =>
    rw [h] at e
    cases e
    exact ⟨x, rfl, by simp⟩
@[simp] theorem pairsN_length {xs : List D} : (pairsN xs).length = xs.length := by simp [pairsN]
def enumD (d : D) (st : Store) : Option ItD := match d with
  | .tup xs => some ⟨pairsN xs, none⟩
  | d => (viewL st d).map fun xs => ⟨pairsN xs, match d with
    | .ref n => some (n, xs)
    | _ => none⟩
def enumE (f : Den) : DenI := fun ρ st => (f ρ st).bind fun d s => Res.of (enumD d s) s
section
variable {G : Gm} {W : WX} {X : Cx} {k : Nat} {α : List Addr} {H : Hp} {st : Store}
theorem itok_enumL {a : Addr} {xs : List D} {vs : List V} (t : LstAt α H a vs) (r : RepL G.K α H xs vs) : ItOk G (Ite G.K a) ⟨pairsN xs, none⟩ α H where
  go := fun i x0 α1 st1 H1 l S _ e => by
    obtain ⟨x, ex, rfl⟩ := pairsN_at e
    obtain ⟨v, e1, R1⟩ := (r.mono l).get ex
    refine ⟨⟨vs, v, (t.mono l).seq, e1⟩, fun u H' yy => ?_⟩
    obtain ⟨T, v', rfl, nT, rfl, f1⟩ := yy
    have q1 := f1 vs (t.mono l).seq
    rw [e1] at q1; cases q1
    have lT : Le α1 H1 α1 (upd H1 T (.tup [.int (i : Nat), v])) := Le.laid nT
    exact ⟨lT, S.laid nT, T, [.int (i : Nat), v], rfl, ⟨S.notIn nT, .inl upd_same⟩, .cons rfl (.cons (R1.mono lT) .nil)⟩
  stop := fun α1 st1 H1 l S _ => ⟨vs, (t.mono l).seq, by rw [pairsN_length, r.len]; exact Nat.le_refl _⟩
theorem itok_enumT {a : Addr} {xs : List D} {vs : List V} (t : TupAt G.K α H a vs) (r : RepL G.K α H xs vs) : ItOk G (IteT G.K a) ⟨pairsN xs, none⟩ α H where
  go := fun i x0 α1 st1 H1 l S _ e => by
    obtain ⟨x, ex, rfl⟩ := pairsN_at e
    obtain ⟨v, e1, R1⟩ := (r.mono l).get ex
    refine ⟨⟨vs, v, (t.mono l).seq, e1⟩, fun u H' yy => ?_⟩
    obtain ⟨T, v', rfl, nT, rfl, f1⟩ := yy
    have q1 := f1 vs (t.mono l).seq
    rw [e1] at q1; cases q1
    have lT : Le α1 H1 α1 (upd H1 T (.tup [.int (i : Nat), v])) := Le.laid nT
    exact ⟨lT, S.laid nT, T, [.int (i : Nat), v], rfl, ⟨S.notIn nT, .inl upd_same⟩, .cons rfl (.cons (R1.mono lT) .nil)⟩
  stop := fun α1 st1 H1 l S _ => ⟨vs, (t.mono l).seq, by rw [pairsN_length, r.len]; exact Nat.le_refl _⟩
theorem itok_enumR {n : Nat} {a : Addr} {xs : List D} (e : α[n]? = some a) : ItOk G (Ite G.K a) ⟨pairsN xs, some (n, xs)⟩ α H where
  go := fun i x0 α1 st1 H1 l S still e0 => by
    obtain ⟨x, ex, rfl⟩ := pairsN_at e0
    obtain ⟨vs, e2, r⟩ := S.cell n a _ (l.at e) still
    obtain ⟨v, e1, R1⟩ := r.get ex
    refine ⟨⟨vs, v, .of e2, e1⟩, fun u H' yy => ?_⟩
    obtain ⟨T, v', rfl, nT, rfl, f1⟩ := yy
    have q1 := f1 vs (.of e2)
    rw [e1] at q1; cases q1
    have lT : Le α1 H1 α1 (upd H1 T (.tup [.int (i : Nat), v])) := Le.laid nT
    exact ⟨lT, S.laid nT, T, [.int (i : Nat), v], rfl, ⟨S.notIn nT, .inl upd_same⟩, .cons rfl (.cons (R1.mono lT) .nil)⟩
  stop := fun α1 st1 H1 l S still => by
    obtain ⟨vs, e2, r⟩ := S.cell n a _ (l.at e) still
    exact ⟨vs, .of e2, by rw [pairsN_length, r.len]; exact Nat.le_refl _⟩
theorem pi_enumT {e : Expr} {ta : TA} {p pos tpos : Pos} {elts : List Expr} {kk : Nat} (hg : Gl X "enumerate") (hm : X.mg "enumerate" = none) (ha : PA X [e] ta) (hs : starEach [e] X.env = [(false, eval e X.env)]) :
    PI X (.Tuple elts kk tpos) (.Call (.Name "enumerate" p) [e] [] pos) (fun σ H R => ta σ H fun vs H1 => ∃ a xs, vs = [.ref a] ∧ SqT X.K H1 a xs ∧ R (IteT X.K a) H1) := by
  constructor
  intro pins s σ H R I h
  refine Call_ (ld_blt I hg hm boot_enumerate (PyProof.Rows.callWith_type1 (thn (ha.run pos pins s σ H _ I h) ?_) hs rfl))
  rintro us s1 ⟨_, H1, J, r1, a, xs, rfl, hq, q⟩
  rw [Vals.ref1 r1]
  obtain ⟨its, rv, p', few⟩ := J.tuple hq
  have old : a < s1.heap.objs.size := by obtain ⟨_, z, _⟩ := p'; exact Heap.lt_size z
  refine call_enumT (show s1.heap.IsTuple a its.toArray from p') fun h1 he hit keep => wpAny_pyIter_enum he ?_
  refine ⟨s1.heap.objs.size + 1, [s1.heap.objs.size + 1, s1.heap.objs.size], _, _, H1, rfl, J.kept (t' := s1.toks) keep, turn_enumT a (s1.heap.objs.size + 1) s1.heap.objs.size (Nat.ne_of_lt old) (Nat.ne_of_lt (Nat.lt_succ_of_lt old)), ⟨⟨.none, he⟩, hit, Nat.succ_ne_self _⟩, fun b hb => ?_, q⟩
  have young : s1.heap.objs.size ≤ b := (enum_two hb).elim (fun z => by rw [z]; exact Nat.le_succ _) fun z => by rw [z]; exact Nat.le_refl _
  exact J.fpOk young (J.hok.fresh young)
theorem di_enum {e : Expr} {f : Den} {p pos tpos : Pos} {elts : List Expr} {kk : Nat} (C : Cm G X W k) (hg : Gl X "enumerate") (hm : X.mg "enumerate" = none) (h : DE G X W e f) (hs : starEach [e] X.env = (false, eval e X.env) :: starEach [] X.env := by rfl) (hs2 : starEach [e] X.env = [(false, eval e X.env)] := by rfl) :
    DI G X W (.Tuple elts kk tpos) (.Call (.Name "enumerate" p) [e] [] pos) (enumE f) := by
  constructor
  constructor
  intro pins s σ H Q I hq
  obtain ⟨ρ, st, α, E, S, q⟩ := hq
  unfold enumE at q
  have hA := pa_cons h.pe (pa_nil (X := X)) hs
  by_cases ht : ∃ xs s1, f ρ st = .ok (.tup xs) s1
  · obtain ⟨xs, s1, hf⟩ := ht
    refine (pi_enumT hg hm hA hs2).run pins s σ H Q I ⟨ρ, st, α, E, S, ?_⟩
    rw [hf] at q ⊢
    intro x α1 H1 l S1 R
    obtain ⟨a, vs, rfl, t, r⟩ := R.tupOf
    rw [C.K]
    exact ⟨a, vs, rfl, t.seq, q _ α1 H1 l S1 (itok_enumT t r)⟩
  · refine (pi_enum hg hm hA hs2).run pins s σ H Q I ⟨ρ, st, α, E, S, ?_⟩
    cases hf : f ρ st with
    | stuck => rw [hf] at q; exact q
    | exc c s1 => rw [hf] at q; exact q
    | ok d s1 =>
      rw [hf] at q
      intro x α1 H1 l S1 R
      replace q : post G W (rpI G) α1 H1 (Res.of (enumD d s1) s1) σ Q := post.mono l q
      rw [C.K]
      cases d with
      | tup ys => exact absurd ⟨ys, s1, hf⟩ ht
      | lst ys =>
        obtain ⟨a, vs, rfl, t, r⟩ := (show ∃ a vs, x = V.ref a ∧ LstAt α1 H1 a vs ∧ RepL G.K α1 H1 ys vs from R)
        exact ⟨a, vs, rfl, t.seq, q _ α1 H1 .refl S1 (itok_enumL t r)⟩
      | ref n =>
        obtain ⟨a, rfl, e⟩ := (show ∃ a, x = V.ref a ∧ α1[n]? = some a from R)
        replace q : post G W (rpI G) α1 H1 (Res.of ((viewL s1 (.ref n)).map fun xs => (⟨pairsN xs, some (n, xs)⟩ : ItD)) s1) σ Q := q
        cases hv : viewL s1 (.ref n) with
        | none => rw [hv] at q; exact q.elim
        | some xs =>
          rw [hv] at q
          obtain ⟨b, vs, e1, t, r⟩ := viewL_ok S1 (d := .ref n) (xs := xs) R hv
          cases e1
          exact ⟨_, vs, rfl, .of t, q _ α1 H1 .refl S1 (itok_enumR e)⟩
      | _ => exact q.elim
end
end DL

namespace DL
open PySem PySem.Spec PyProof.Rows L2

/-! ### what the generator names -/
def extO : MD := fun xs ds => match ds with
  | [.lst ys] => if xs.length + ys.length ≤ sizeLine then some (.non, xs ++ ys) else none
  | _ => none
section
variable {G : Gm} {W : WX} {X : Cx} {k : Nat} {o e : Expr} {es : List Expr} {f : Den} {g : DenL} {p pos apos cpos : Pos}
theorem md_ext : MdOk G X "list.extend" extO := mt_extend.imp fun x vs H Q ⟨l, xs, ds, us, r, ys, α, st, S, e1, e2, r1, r2, e3, q⟩ => by
  unfold extO at e3
  split at e3
  · rename_i zs
    split at e3
    · rename_i hl
      cases e3
      obtain ⟨w, rfl, rw'⟩ := r2.one
      obtain ⟨b, vs, rfl, t, rz⟩ := (show ∃ b vs, w = V.ref b ∧ LstAt α H b vs ∧ RepL G.K α H zs vs from rw')
      exact ⟨l, b, us, vs, e1, rfl, e2, t.2, by rw [← r1.len, ← rz.len]; exact hl, q .non _ rfl (r1.append rz)⟩
    · cases e3
  · cases e3
section
variable (hbase : ∀ name, attributeBase o name X.env (eval o X.env) = eval o X.env)
end
theorem dm_extend (C : Cm G X W k) (ho : DE G X W o f) (ha : DA G X W (e :: es) g) (hbase : attributeBase o "extend" X.env (eval o X.env) = eval o X.env := by rfl)
    (hf : ((backTo cpos (starEach (e :: es) X.env)).all (fun x => !x.1) && (backToKw cpos (keywordEach [] X.env)).all (fun x => x.1.isSome) && decide ((e :: es).length + ([] : List Keyword).length + (if ([] : List Keyword).isEmpty then 0 else 1) < 30)) = true := by rfl)
    (hl : (apos.endLine == cpos.line) = true := by rfl) (hs : starEach (e :: es) X.env = (false, eval e X.env) :: starEach es X.env := by rfl) (hp : (backTo cpos (starEach es X.env)).any (·.1) = false := by rfl) :
    DE G X W (.Call (.Attribute o "extend" apos) (e :: es) [] cpos) (mdE extO f g) := de_md C F.slot_list_extend F.type_list_extend md_ext ho ha hbase hf hl hs hp
theorem dm_popAt (C : Cm G X W k) (ho : DE G X W o f) (ha : DA G X W (e :: es) g) (hbase : attributeBase o "pop" X.env (eval o X.env) = eval o X.env := by rfl)
    (hf : ((backTo cpos (starEach (e :: es) X.env)).all (fun x => !x.1) && (backToKw cpos (keywordEach [] X.env)).all (fun x => x.1.isSome) && decide ((e :: es).length + ([] : List Keyword).length + (if ([] : List Keyword).isEmpty then 0 else 1) < 30)) = true := by rfl)
    (hl : (apos.endLine == cpos.line) = true := by rfl) (hs : starEach (e :: es) X.env = (false, eval e X.env) :: starEach es X.env := by rfl) (hp : (backTo cpos (starEach es X.env)).any (·.1) = false := by rfl) :
    DE G X W (.Call (.Attribute o "pop" apos) (e :: es) [] cpos) (mdE popAtO f g) := de_md C F.slot_list_pop F.type_list_pop md_popAt ho ha hbase hf hl hs hp
theorem dm_pop (C : Cm G X W k) (ho : DE G X W o f) (hbase : attributeBase o "pop" X.env (eval o X.env) = eval o X.env := by rfl) (hl : (apos.endLine == cpos.line) = true := by rfl) :
    DE G X W (.Call (.Attribute o "pop" apos) [] [] cpos) (mdE popO f nilL) := de_md0 C F.slot_list_pop F.type_list_pop md_pop ho hbase hl
theorem dm_count (C : Cm G X W k) (ho : DE G X W o f) (ha : DA G X W (e :: es) g) (hbase : attributeBase o "count" X.env (eval o X.env) = eval o X.env := by rfl)
    (hf : ((backTo cpos (starEach (e :: es) X.env)).all (fun x => !x.1) && (backToKw cpos (keywordEach [] X.env)).all (fun x => x.1.isSome) && decide ((e :: es).length + ([] : List Keyword).length + (if ([] : List Keyword).isEmpty then 0 else 1) < 30)) = true := by rfl)
    (hl : (apos.endLine == cpos.line) = true := by rfl) (hs : starEach (e :: es) X.env = (false, eval e X.env) :: starEach es X.env := by rfl) (hp : (backTo cpos (starEach es X.env)).any (·.1) = false := by rfl) :
    DE G X W (.Call (.Attribute o "count" apos) (e :: es) [] cpos) (mcE countO f g) := de_mc C F.slot_list_count F.type_list_count (look_countL C) F.slot_tuple_count F.type_tuple_count (look_countT C) ho ha hbase hl hf hs hp
theorem dm_index (C : Cm G X W k) (ho : DE G X W o f) (ha : DA G X W (e :: es) g) (hbase : attributeBase o "index" X.env (eval o X.env) = eval o X.env := by rfl)
    (hf : ((backTo cpos (starEach (e :: es) X.env)).all (fun x => !x.1) && (backToKw cpos (keywordEach [] X.env)).all (fun x => x.1.isSome) && decide ((e :: es).length + ([] : List Keyword).length + (if ([] : List Keyword).isEmpty then 0 else 1) < 30)) = true := by rfl)
    (hl : (apos.endLine == cpos.line) = true := by rfl) (hs : starEach (e :: es) X.env = (false, eval e X.env) :: starEach es X.env := by rfl) (hp : (backTo cpos (starEach es X.env)).any (·.1) = false := by rfl) :
    DE G X W (.Call (.Attribute o "index" apos) (e :: es) [] cpos) (mcE indexO f g) := de_mc C F.slot_list_index F.type_list_index (look_indexL C) F.slot_tuple_index F.type_tuple_index (look_indexT C) ho ha hbase hl hf hs hp
/-! a value that becomes a cell -/
def cellO (o : List D → Store → Option (List D)) (f : DenL) : Den := fun ρ st => (f ρ st).bind fun ds s => match o ds s with
  | some ys => .ok (.ref s.length) (s ++ [.lst ys])
  | none => .stuck
def viewO : List D → Store → Option (List D) := fun ds st => match ds with
  | [d] => view st d
  | _ => none
def newListE (g : DenL) : Den := cellO viewO g
theorem de_newList (C : Cm G X W k) (hm : X.mg "list" = none) (ha : DA G X W (e :: es) g) (hg : Gl X "list" := by rfl) (he : starEach (e :: es) X.env = (false, eval e X.env) :: starEach es X.env := by rfl) (hpl : (backTo pos (starEach es X.env)).any (·.1) = false := by rfl) :
    DE G X W (.Call (.Name "list" p) (e :: es) [] pos) (newListE g) := by
  refine ⟨(pe_callTy call_list_of hg hm bt_list ha.pa (he := he) (hpl := hpl)).imp ?_⟩
  intro σ H Q hq
  obtain ⟨ρ, st, α, E, S, q⟩ := hq
  refine ⟨ρ, st, α, E, S, (post.step (rp := RepL G.K) q).imp fun vs H1 ⟨ds, s1, α1, l, S1, R, q⟩ => ?_⟩
  unfold viewO at q
  split at q
  · rename_i ys hv
    split at hv
    · obtain ⟨v, rfl, r⟩ := R.one
      obtain ⟨a, us, rfl, t, ru⟩ := view_ok S1 r hv
      rw [C.K]
      exact ⟨a, us, rfl, t, post.new (A := D) (B := V) S1 ru q⟩
    · cases hv
  · exact q.elim
def newCatE (f g : Den) : Den := fun ρ st => (f ρ st).bind fun a s => (g ρ s).bind fun b s2 => match viewL s2 a, viewL s2 b with
  | some xs, some ys => if xs.length + ys.length ≤ sizeLine then .ok (.ref s2.length) (s2 ++ [.lst (xs ++ ys)]) else .stuck
  | _, _ => .stuck
theorem de_newCat {a b : Expr} {h : Den} (C : Cm G X W k) (ha : DE G X W a f) (hb : DE G X W b h) : DE G X W (.BinOp a .Add b pos) (newCatE f h) := by
  refine ⟨(pe_op (op_cat (X := X)) ha.pe hb.pe).imp ?_⟩
  intro σ H Q hq
  obtain ⟨ρ, st, α, E, S, q⟩ := hq
  refine ⟨ρ, st, α, E, S, (post.step (rp := Rep G.K) q).imp fun x H1 ⟨d, s1, α1, l, S1, R, q⟩ => ?_⟩
  refine ⟨ρ, s1, α1, E.mono l, S1, (post.step (rp := Rep G.K) q).imp fun y H2 ⟨c, s2, α2, l2, S2, R2, q2⟩ => ?_⟩
  split at q2
  · rename_i xs ys v1 v2
    split at q2
    · rename_i hl
      obtain ⟨a1, vs, rfl, t1, q1⟩ := viewL_ok S2 (R.mono l2) v1
      obtain ⟨b1, ws, rfl, t2, q3⟩ := viewL_ok S2 R2 v2
      rw [q1.len, q3.len] at hl
      exact ⟨a1, b1, vs, ws, rfl, rfl, t1, t2, hl, post.new (A := D) (B := V) S2 (q1.append q3) q2⟩
    · exact q2.elim
  · exact q2.elim
/-! range(i, j, c) -/
def rangeC (i c : Int) (n : Nat) : List D := (List.range n).map fun m => .int (i + (m : Nat) * c)
def rng3D (ds : List D) : Option ItD := match ds with
  | [.int i, .int j, .int c] => if rngB i && rngB j && rngB c && decide (c ≠ 0) && Builtin.Range.small i j c then some ⟨rangeC i c (Builtin.Range.rangeSize i j c).toNat, none⟩ else none
  | _ => none
def rng3E (g : DenL) : DenI := fun ρ st => (g ρ st).bind fun ds s => Res.of (rng3D ds) s
theorem itok_rangeC {i c : Int} {n : Nat} {α : List Addr} {H : Hp} : ItOk G (Itc i c n) ⟨rangeC i c n, none⟩ α H where
  go := fun m x0 α1 st1 H1 l S _ e => by
    unfold rangeC at e
    rw [List.getElem?_map] at e
    by_cases hm : m < n
    · rw [List.getElem?_range hm] at e
      cases e
      refine ⟨hm, fun x H' y => ?_⟩
      obtain ⟨rfl, rfl⟩ := y
      exact ⟨.refl, S, rfl⟩
    · rw [List.getElem?_eq_none (by simpa using hm)] at e
      cases e
  stop := fun α1 st1 H1 l S _ => by show n ≤ _; unfold rangeC; simp
theorem di_range3 {tg a b c : Expr} (C : Cm G X W k) (hg : Gl X "range") (hm : X.mg "range" = none) (ha : DA G X W [a, b, c] g) (hs : starEach [a, b, c] X.env = (false, eval a X.env) :: starEach [b, c] X.env := by rfl) (hpl : (backTo pos (starEach [b, c] X.env)).any (·.1) = false := by rfl) :
    DI G X W tg (.Call (.Name "range" p) [a, b, c] [] pos) (rng3E g) := by
  refine ⟨(pi_range3 hg hm ha.pa hs hpl).imp ?_⟩
  intro σ H Q hq
  obtain ⟨ρ, st, α, E, S, q⟩ := hq
  refine ⟨ρ, st, α, E, S, (post.step (rp := RepL G.K) q).imp fun vs H1 ⟨ds, s1, α1, l, S1, R, q⟩ => ?_⟩
  unfold rng3D at q
  split at q
  · rename_i i j d
    split at q
    · rename_i hh
      obtain ⟨hh, hsm⟩ := Bool.and_eq_true_iff.mp hh
      obtain ⟨h1, h2, h3, h4⟩ := size_fits hh
      obtain ⟨v, vs', rfl, e1, R⟩ := (show ∃ v r, vs = v :: r ∧ Rep G.K α1 H1 (.int i) v ∧ RepL G.K α1 H1 [.int j, .int d] r from R)
      obtain ⟨v2, v3, rfl, e2, e3⟩ := R.two
      cases (show v = V.int i from e1)
      cases (show v2 = V.int j from e2)
      cases (show v3 = V.int d from e3)
      exact ⟨i, j, d, _, rfl, ⟨h1, h2, hsm, h3⟩, q _ α1 H1 .refl S1 itok_rangeC⟩
    · exact q.elim
  · exact q.elim
end
theorem ap_while {c : DenB} {b : DenS} {ks : List Nat} {ρ : Env} {st : Store} : whileS c b ks ρ st = whileGo c b ks fuelW ρ st := Eq.trans rfl rfl
@[simp] theorem popAt_ap {xs : List D} {i : Int} (h : 0 ≤ i ∧ i < xs.length ∧ xs.length ≤ 16777216) : popAtO xs [.int i] = some (xs[i.toNat]'(by omega), xs.eraseIdx i.toNat) := by
  have e : seqIndex? i xs.length = some i.toNat := by
    unfold seqIndex?
    simp [show ¬ i < 0 by omega, h.1, h.2.1]
  show (if -(2 ^ 63) ≤ i ∧ i < 2 ^ 63 then (match seqIndex? i xs.length with | some k => (xs[k]?).map fun d => (d, xs.eraseIdx k) | none => none) else none) = _
  rw [if_pos (by omega), e]
  show (xs[i.toNat]?).map _ = _
  rw [List.getElem?_eq_getElem (by omega)]
  rfl
@[simp] theorem ext_ap {xs ys : List D} (h : xs.length + ys.length ≤ 16777216) : extO xs [.lst ys] = some (.non, xs ++ ys) := if_pos (by rw [size_line]; exact h)
@[simp] theorem ap_newList {g : DenL} {ρ : Env} {st : Store} : newListE g ρ st = cellO viewO g ρ st := Eq.trans rfl rfl
def cellK (o : Option (List D)) (s : Store) : Res D := match o with
  | some ys => .ok (.ref s.length) (s ++ [.lst ys])
  | none => .stuck
@[simp] theorem cellK_some {ys : List D} {s : Store} : cellK (some ys) s = .ok (.ref s.length) (s ++ [.lst ys]) := Eq.trans rfl rfl
@[simp] theorem ap_cellO {o : List D → Store → Option (List D)} {g : DenL} {ρ : Env} {st : Store} : cellO o g ρ st = (g ρ st).bind fun ds s => cellK (o ds s) s := by
  unfold cellO cellK
  rfl
@[simp] theorem viewO_one {d : D} {st : Store} : viewO [d] st = view st d := Eq.trans rfl rfl
end DL

namespace DL
open PySem PySem.Spec PyProof.Rows L2 PySem.W

/-! ### sorted(t), t a tuple; reverse=True -/
section
variable {prog : Program} {w : World} {A : Around} {E : Value → Shared → Prop} {s : Shared}
/-- the items of a tuple, collected (the library has it of a list; this follows it) -/
theorem collect_tup {t : Addr} {xs : List Value} {Q : List Value → Shared → Prop} (hT : s.heap.IsTuple t xs.toArray) (few : xs.length ≤ sizeLine)
    (q : Q xs { s with heap := (s.heap.push (seqObj "list" #[] 0)).update s.heap.objs.size (Obj.mapSeq (· ++ xs.toArray)) }) : wpAny (model prog w) A (collect (.ref t)) Q E s := by
  obtain ⟨ob, e1, e2, n, e3⟩ := id hT
  have new : (s.heap.push (seqObj "list" #[] 0)).get? s.heap.objs.size = some (seqObj "list" #[] 0) := Heap.get?_push_size _ rfl
  have old : (s.heap.push (seqObj "list" #[] 0)).get? t = some ob := Heap.get?_push_of_some _ e1
  unfold collect
  refine wpAny_bind (wpAny_runValue (codeAny_builtin F.entry_proto_collect ?_))
  show wpAny _ _ (do again (.builtin "list.__iadd__" ⟨[← newList [], .ref t], []⟩)) _ _ s
  refine wpAny_bind (wpAny_newList (wpAny_pure ⟨Code.quiet_builtin _ (by decide +kernel), codeAny_builtin F.entry_list_iadd ?_⟩))
  show wpAny _ _ (Builtin.List.listExtendWith (.ref s.heap.objs.size) (.ref t) (.ref s.heap.objs.size)) _ _ { s with heap := s.heap.push (seqObj "list" #[] 0) }
  unfold Builtin.List.listExtendWith
  refine wpAny_bind (wpAny_typeOf (T := "tuple") ⟨ob, old, e2⟩ ?_)
  rw [if_pos (by rw [show (Value.type "tuple" == Value.type "tuple") = true by decide, Bool.or_true])]
  refine wpAny_bind (listItems_at old e3 (wpAny_bind (listItems_at (xs := #[]) (n := 0) new rfl ?_)))
  rw [if_neg (by simp)]
  refine wpAny_bind (listUpdate_at (xs := #[]) (n := 0) new rfl (wpAny_pure ?_) (Nat.zero_le _) (by rw [size_line] at few; simp; omega))
  show wpAny (model prog w) A (load s.heap.objs.size >>= _) Q E { s with heap := (s.heap.push (seqObj "list" #[] 0)).update s.heap.objs.size (Obj.mapSeq (· ++ xs.toArray)) }
  refine wpAny_bind (wpAny_load (get?_update_seq new _) ?_)
  show wpAny _ _ (pure ((#[] : Array Value) ++ xs.toArray).toList) Q E _
  rw [show ((#[] : Array Value) ++ xs.toArray).toList = xs by simp]
  exact wpAny_pure q
theorem sorted_of_tup {t : Addr} {xs : List Value} {kw : List (Str × Value)} {Q : Value → Shared → Prop} (hT : s.heap.IsTuple t xs.toArray) (few : xs.length ≤ sizeLine) (ok1 : argsOk "sorted" ⟨[.ref t], kw⟩) (ok2 : ∀ x, argsOk "list.sort" ⟨[.ref x], kw⟩)
    (body : ∀ E' : Value → Shared → Prop, wpAny (model prog w) A.in1.in1 (Builtin.«list.sort» ⟨[.ref (s.heap.objs.size + 1)], kw⟩) (fun f s' => f = .done (.ret .none) ∧ Q (.ref (s.heap.objs.size + 1)) s') E' { s with heap := copyHeap s.heap xs }) :
    wpAny (model prog w) A (call (.builtin "sorted") [.ref t] kw) Q E s := by
  have size : ((s.heap.push (seqObj "list" #[] 0)).update s.heap.objs.size (Obj.mapSeq (· ++ xs.toArray))).objs.size = s.heap.objs.size + 1 := by rw [Heap.size_update, size_push']
  refine call_function_entry_kw kind_sorted plain_sorted entry_sorted ok1 ?_
  unfold Builtin.«sorted»
  refine wpAny_bind (m := checkCount "sorted" 1 1 _) (wpAny_pure (wpAny_bind (collect_tup hT few (wpAny_bind (wpAny_newList ?_ few)))))
  show wpAny _ _ _ _ _ { s with heap := copyHeap s.heap xs }
  rw [size]
  refine wpAny_bind (wpAny_holding (wpAny_call_entry_kw slot_list_sort ⟨_, copyHeap_at s.heap xs, rfl⟩ entry_list_sort ?_ (ok2 _)))
  show wpAny (model prog w) A.in1.in1 (Builtin.«list.sort» ⟨[.ref (s.heap.objs.size + 1)], kw⟩) _ _ _
  refine wpAny_mono (body _) ?_ fun _ _ z => z
  rintro f s' ⟨rfl, hq⟩
  exact ⟨_, rfl, wpAny_pure ⟨_, rfl, hq⟩⟩
/-- sorted(xs[, reverse=b]), xs a list or a tuple of data -/
theorem sorted_both {a : Addr} {vs : List Value} {b : Bool} {β : Type} {bs : List β} {enc : β → PyData} {R : Value → β → Prop} {Q : Value → Shared → Prop} (hs : s.heap.IsList a vs.toArray ∨ s.heap.IsTuple a vs.toArray) (e : EachIs R vs bs)
    (er : EachIs (fun v b => ∃ as, Reads s.heap v (enc b) as) vs bs) (hal : AllAlike (bs.map enc)) (hk : Sortable (bs.map enc)) (hL : bs.length ≤ sizeLine) (hu : ∀ b, b ∈ bs → A.units + 2 + (enc b).depth < cLine)
    (h : ∀ out, out.length = bs.length → EachIs R out (bs.mergeSort (dataLe b enc)) → Q (.ref (s.heap.objs.size + 1)) { s with heap := sortedAll s.heap vs (List.toArray out) }) :
    wpAny (model prog w) A (call (.builtin "sorted") [.ref a] [(Str.ofString "reverse", .bool b)]) Q E s := by
  rcases hs with hl | ht
  · exact sorted_rev_data hl e er hal hk hL hu h
  · have er' : EachIs (fun v b => ∃ as, Reads (sortingHeap (copyHeap s.heap vs) (s.heap.objs.size + 1) vs) v (enc b) as) vs bs := er.mono fun _ _ ⟨as, r⟩ => ⟨as, PyProof.Rows.Reads.keeps (fun _ _ => sorting_copy_old) r⟩
    have few : vs.length ≤ sizeLine := by rw [e.length]; exact hL
    refine sorted_of_tup ht few (args_sorted_rev _ _) (fun _ => args_list_sort_rev _ _) fun _ => list_sort_rev_vals (s := { s with heap := copyHeap s.heap vs }) (copyHeap_at s.heap vs) ?_ few ⟨rfl, h _ (by rw [sortVals_length b rfl]; exact e.length) (sortVals_data b e er' hal)⟩
    exact SortsAt.data (s := { s with heap := sortingHeap (copyHeap s.heap vs) (s.heap.objs.size + 1) vs }) (each_map (R := fun v d => ∃ as, Reads (sortingHeap (copyHeap s.heap vs) (s.heap.objs.size + 1) vs) v d as) enc er') hal hk (bound_map hu)
/-- the same without reverse -/
theorem sorted_bothP {a : Addr} {vs : List Value} {β : Type} {bs : List β} {enc : β → PyData} {R : Value → β → Prop} {Q : Value → Shared → Prop} (hs : s.heap.IsList a vs.toArray ∨ s.heap.IsTuple a vs.toArray) (e : EachIs R vs bs)
    (er : EachIs (fun v b => ∃ as, Reads s.heap v (enc b) as) vs bs) (hal : AllAlike (bs.map enc)) (hk : Sortable (bs.map enc)) (hL : bs.length ≤ sizeLine) (hu : ∀ b, b ∈ bs → A.units + 2 + (enc b).depth < cLine)
    (h : ∀ out, out.length = bs.length → EachIs R out (bs.mergeSort (dataLe false enc)) → Q (.ref (s.heap.objs.size + 1)) { s with heap := sortedAll s.heap vs (List.toArray out) }) :
    wpAny (model prog w) A (call (.builtin "sorted") [.ref a]) Q E s := by
  rcases hs with hl | ht
  · exact sorted_data hl e er hal hk hL hu h
  · have er' : EachIs (fun v b => ∃ as, Reads (sortingHeap (copyHeap s.heap vs) (s.heap.objs.size + 1) vs) v (enc b) as) vs bs := er.mono fun _ _ ⟨as, r⟩ => ⟨as, PyProof.Rows.Reads.keeps (fun _ _ => sorting_copy_old) r⟩
    have few : vs.length ≤ sizeLine := by rw [e.length]; exact hL
    refine sorted_of_tup ht few (args_sorted1 _) (fun _ => args_list_sort _) fun _ => list_sort_vals (s := { s with heap := copyHeap s.heap vs }) (copyHeap_at s.heap vs) ?_ few ⟨rfl, h _ (by rw [sortVals_length false rfl]; exact e.length) (sortVals_data false e er' hal)⟩
    exact SortsAt.data (s := { s with heap := sortingHeap (copyHeap s.heap vs) (s.heap.objs.size + 1) vs }) (each_map (R := fun v d => ∃ as, Reads (sortingHeap (copyHeap s.heap vs) (s.heap.objs.size + 1) vs) v d as) enc er') hal hk (bound_map hu)
end
def sortedO : OL := fun ds st => match ds with
  | [d] => (view st d).bind fun xs => if sortOk xs then some (.lst (sortL xs)) else none
  | _ => none
def sortRevL (xs : List D) : List D := xs.mergeSort (dataLe true toPy)
def sortedRevO : OL := fun ds st => match ds with
  | [d] => (view st d).bind fun xs => if sortOk xs then some (.lst (sortRevL xs)) else none
  | _ => none
section
variable {G : Gm} {W : WX} {X : Cx} {k : Nat} {α : List Addr} {H : Hp} {st : Store} {pins : List (Addr × Obj)} {σ : L2.St} {s : Shared}
/-- what sorting asks, of a list or a tuple -/
theorem sort_pre (C : Cm G X W k) (I : Inv X pins σ H s) (S : SR G α st H) {d : D} {v : V} {xs : List D} (r : Rep G.K α H d v) (hv : view st d = some xs) : ∃ (a : Addr) (its : List Value), v = .ref a ∧ (s.heap.IsList a its.toArray ∨ s.heap.IsTuple a its.toArray) ∧ EachIs (Stands G α H) its xs ∧ xs.length ≤ sizeLine := by
  obtain ⟨a, ws, rfl, t, ru⟩ := view_ok S r hv
  rw [← C.K] at t
  rcases t with t | t
  · obtain ⟨its, rv, pl, hz⟩ := I.list t
    exact ⟨a, its, rfl, .inl pl.isList, stands_of ru rv, by rw [ru.len]; exact hz⟩
  · obtain ⟨its, rv, pl, hz⟩ := I.tuple t
    exact ⟨a, its, rfl, .inr pl, stands_of ru rv, by rw [ru.len]; exact hz⟩
/-- what comes of it -/
theorem sort_post (I : Inv X pins σ H s) (S : SR G α st H) {ys : List D} {its : List Value} {Q : VK} (hl : ys.length ≤ sizeLine) (g : got G α H st (some (.lst ys)) Q) {out : List Value} (eo : EachIs (Stands G α H) out ys) : EP X pins σ Q (.ref (s.heap.objs.size + 1)) { s with heap := sortedAll s.heap its out.toArray } := by
  obtain ⟨vs2, h1, h2⟩ := stands_back eo
  obtain ⟨ep, he⟩ := sortedAll_at s.heap its out.toArray
  exact ⟨.ref _, upd H (s.heap.objs.size + 1) (.lst vs2), I.laid (t' := s.toks) (fun _ _ => sortedAll_old) (Nat.le_succ _) ⟨by rw [← h2.len]; exact hl, out, ep, h1, he⟩, rfl, got.lst S h2 g _ (I.hok.fresh (Nat.le_succ _))⟩
theorem cr_sortedD (C : Cm G X W k) : CallR X (.builtin "sorted") (rdC G sortedO) := by
  intro pins s σ H vs us Q I rv ⟨ds, st, α, S, R, g⟩
  unfold sortedO at g
  split at g
  · rename_i d
    obtain ⟨v, rfl, r⟩ := R.one
    cases hv : view st d with
    | none => rw [hv] at g; exact g.elim
    | some xs =>
      rw [hv] at g
      have g : got G α H st (if sortOk xs then some (.lst (sortL xs)) else none) Q := g
      split at g
      · rename_i ok
        obtain ⟨a, its, rfl, hs, e1, few⟩ := sort_pre C I S r hv
        rw [Vals.ref1 rv]
        have hu := C.room.units
        exact sorted_bothP (vs := its) (bs := xs) (enc := toPy) (R := Stands G α H) hs e1 (reads_of C.K I (fun d m => sortOk_fits ok m) e1) (sortOk_alike ok) (sortOk_kind ok) few (fun d m => by have := depth_toPy d 60 (sortOk_fits ok m); omega)
          fun out ho eo => sort_post I S (by unfold sortL; rw [List.length_mergeSort]; exact few) g eo
      · exact g.elim
  · exact g.elim
theorem dc_sorted {e : Expr} {es : List Expr} {g : DenL} {p pos : Pos} (C : Cm G X W k) (hm : X.mg "sorted" = none) (ha : DA G X W (e :: es) g) (hg : Gl X "sorted" := by rfl) (he : starEach (e :: es) X.env = (false, eval e X.env) :: starEach es X.env := by rfl) (hpl : (backTo pos (starEach es X.env)).any (·.1) = false := by rfl) :
    DE G X W (.Call (.Name "sorted" p) (e :: es) [] pos) (opL sortedO g) := de_callB (cr_sortedD C) hg hm bt_sorted ha (he := he) (hpl := hpl)
/-- sorted(x, reverse=True) -/
theorem cr_sortedRevD (C : Cm G X W k) : CallRK X (.builtin "sorted") [Str.ofString "reverse"] (fun vs zs H Q => zs = [.bl true] ∧ rdC G sortedRevO vs H Q) := by
  rintro pins s σ H vs zs us ws Q I rv rz ⟨rfl, ds, st, α, S, R, g⟩
  obtain ⟨w1, rfl, e1⟩ := vals1 rz
  obtain rfl : w1 = Value.bool true := e1
  unfold sortedRevO at g
  split at g
  · rename_i d
    obtain ⟨v, rfl, r⟩ := R.one
    cases hv : view st d with
    | none => rw [hv] at g; exact g.elim
    | some xs =>
      rw [hv] at g
      have g : got G α H st (if sortOk xs then some (.lst (sortRevL xs)) else none) Q := g
      split at g
      · rename_i ok
        obtain ⟨a, its, rfl, hs, e1, few⟩ := sort_pre C I S r hv
        rw [Vals.ref1 rv]
        have hu := C.room.units
        exact sorted_both (b := true) (vs := its) (bs := xs) (enc := toPy) (R := Stands G α H) hs e1 (reads_of C.K I (fun d m => sortOk_fits ok m) e1) (sortOk_alike ok) (sortOk_kind ok) few (fun d m => by have := depth_toPy d 60 (sortOk_fits ok m); omega)
          fun out ho eo => sort_post I S (by unfold sortRevL; rw [List.length_mergeSort]; exact few) g eo
      · exact g.elim
  · exact g.elim
theorem de_sortedRev {e : Expr} {g : DenL} {p pos cp kp : Pos} {j : Nat} (C : Cm G X W k) (hg : Gl X "sorted") (hm : X.mg "sorted" = none) (ha : DA G X W [e] g)
    (he : backTo pos (starEach [e] X.env) = (false, eval e X.env) :: backTo pos (starEach [] X.env) := by rfl) (hpl : (backTo pos (starEach [e] X.env)).any (·.1) = false := by rfl)
    (hall : (backToKw pos (keywordEach [⟨some "reverse", .Constant (.bool true) j cp, kp⟩] X.env)).all (·.1.isSome) = true := by rfl) (hnone : (backToKw pos (keywordEach [⟨some "reverse", .Constant (.bool true) j cp, kp⟩] X.env)).any (·.1.isNone) = false := by rfl)
    (hks : (backToKw pos (keywordEach [⟨some "reverse", .Constant (.bool true) j cp, kp⟩] X.env)).filterMap (·.1) = [Str.ofString "reverse"] := by rfl) :
    DE G X W (.Call (.Name "sorted" p) [e] [⟨some "reverse", .Constant (.bool true) j cp, kp⟩] pos) (opL sortedRevO g) := by
  refine ⟨(pe_callBK (cr_sortedRevD C) hg hm bt_sorted ha.pa (pk_cons (nm := some "reverse") (pe_bl (b := true)) pk_nil) (by decide) (by decide) he hpl hall hnone hks).imp ?_⟩
  intro σ H Q hq
  obtain ⟨ρ, st, α, E, S, q⟩ := hq
  refine ⟨ρ, st, α, E, S, (post.step (rp := RepL G.K) q).imp fun vs H1 ⟨ds, s1, α1, l, S1, R, q⟩ => ?_⟩
  exact ⟨rfl, ds, s1, α1, S1, R, got.of q⟩
end
end DL

namespace DL
open PySem PySem.Spec PyProof.Rows L2

/-! ### zip of a list with a tuple -/
def ItLT (K : PySem.W.Frag) (a b : Addr) : It :=
  ⟨fun i H => ∃ (xs ys : List V) (x y : V), SqL K H a xs ∧ SqT K H b ys ∧ xs[i]? = some x ∧ ys[i]? = some y,
    fun i H v H' => ∃ T x y, v = .ref T ∧ H T = none ∧ H' = upd H T (.tup [x, y]) ∧ (∀ xs, SqL K H a xs → xs[i]? = some x) ∧ ∀ ys, SqT K H b ys → ys[i]? = some y,
    fun i H => ∃ xs ys : List V, SqL K H a xs ∧ SqT K H b ys ∧ i ≤ xs.length ∧ i ≤ ys.length ∧ (i = xs.length ∨ i = ys.length)⟩
def lt5 (z TI TO i1 i2 : Addr) : List Addr := [z, TI, TO, i1, i2]
theorem mem5 {z TI TO i1 i2 c : Addr} (h : c ∈ lt5 z TI TO i1 i2) : c = z ∨ c = TI ∨ c = TO ∨ c = i1 ∨ c = i2 := by simpa [lt5] using h
theorem sep5 {z TI TO i1 i2 a b : Addr} (D : ZipApart z TI TO i1 i2 a b) : ZipSep2 z TI TO i1 i2 [i1, a] [i2, b] where
  TIz := D.TIz
  TOz := D.TOz
  TITO := D.TITO
  TIi1 := D.TIi1
  mem1 := by simp
  zf1 := by simp [D.i1z.symm, D.l1z.symm]
  Tf1 := by simp [D.TOi1, D.l1TO.symm]
  TIi2 := D.TIi2
  mem2 := by simp
  zf2 := by simp [D.i2z.symm, D.l2z.symm]
  Tf2 := by simp [D.TOi2, D.l2TO.symm]
  sep1_2 := by simp [D.i12, D.l2i1.symm]
  sep2_1 := by simp [D.i12.symm, D.l1i2.symm]
theorem turn_LT {P : Program} {w : World} {K : PySem.W.Frag} {elts : List Expr} {kk : Nat} {tpos : Pos} {a b z TI TO i1 i2 : Addr} (D : ZipApart z TI TO i1 i2 a b) :
    Turn P w K (.Tuple elts kk tpos) (ItLT K a b) (lt5 z TI TO i1 i2) z (fun i h => (IsZip h z TI TO .none ∧ IsTupOf2 h TI (.ref i1) (.ref i2) ∧ ∃ x y, IsTupOf2 h TO x y) ∧ h.IsListIter i1 a i ∧ h.IsTupleIter i2 b i) where
  mem := by simp [lt5]
  obj := fun i h st c hc => by
    obtain ⟨⟨hz, hTI, ⟨x, y, hTO⟩⟩, ⟨o1, e1, _, d1⟩, ⟨o2, e2, _, d2⟩⟩ := st
    rcases mem5 hc with rfl | rfl | rfl | rfl | rfl
    · exact ⟨_, hz, fun v q => nomatch q⟩
    · exact ⟨_, hTI, fun v q => nomatch q⟩
    · exact ⟨_, hTO, fun v q => nomatch q⟩
    · exact ⟨o1, e1, fun v q => by rw [d1] at q; cases q⟩
    · exact ⟨o2, e2, fun v q => by rw [d2] at q; cases q⟩
  keep := fun i h h' st k => by
    obtain ⟨⟨hz, hTI, ⟨x, y, hTO⟩⟩, h1, h2⟩ := st
    exact ⟨⟨k z (by simp [lt5]) _ hz, k TI (by simp [lt5]) _ hTI, x, y, k TO (by simp [lt5]) _ hTO⟩, h1.at fun o q => k i1 (by simp [lt5]) o q, h2.at fun o q => k i2 (by simp [lt5]) o q⟩
  item := by
    intro X hP hw hK hc i pins s σ H E I hf st hg
    subst hP hw hK
    obtain ⟨⟨hz, hTI, ⟨x0, y0, hTO⟩⟩, h1, h2⟩ := st
    obtain ⟨xs, ys, x, y, hqx, hqy, hx, hy⟩ := hg
    obtain ⟨its, rv, p, _⟩ := I.list hqx
    obtain ⟨its2, rv2, p2, _⟩ := I.tuple hqy
    obtain ⟨u, hu, ru⟩ := rv.get hx
    obtain ⟨u2, hu2, ru2⟩ := rv2.get hy
    have hzl : z < s.heap.objs.size := Heap.lt_size hz
    have hh : X.A.in1.handled = none := I.ok.hd hc
    have hb1 := (List.getElem?_eq_some_iff.mp hu).1
    have hb2 := (List.getElem?_eq_some_iff.mp hu2).1
    refine wpAny_pyNext_zipD2_item (sep5 D) (Draws.list hh i1 a D.l1i1 its.toArray) (Draws.tuple hh i2 b D.l2i2 its2.toArray) hz hTI hTO ⟨h1, p.isList⟩ ⟨h2, p2⟩ (by simpa using hb1) (by simpa using hb2) fun w1 w2 h' tk q1 q2 z' TO' s1' s2' hT hsz hk => ?_
    have ew1 : w1 = u := by rw [List.getElem?_toArray, hu] at q1; exact (Option.some.inj q1).symm
    have ew2 : w2 = u2 := by rw [List.getElem?_toArray, hu2] at q2; exact (Option.some.inj q2).symm
    subst ew1 ew2
    refine ⟨_, rfl, wpAny_letOwnedTupleGo_zip (s := { s with heap := h', toks := tk }) z' fun h'' z'' sb => ?_⟩
    have hT2 : h''.get? s.heap.objs.size = some { cls := .type "tuple", data := .seq #[w1, w2] } := (sb.2 _ (Nat.ne_of_gt hzl)).trans hT
    have new : ObjOk X.prog X.w (upd H s.heap.objs.size (.tup [x, y])) h'' s.heap.objs.size (.tup [x, y]) :=
      ⟨by show 2 ≤ sizeLine; decide, [w1, w2], .cons ru (.cons ru2 .nil), ⟨_, hT2, rfl, _, rfl⟩⟩
    have I1 : Inv X pins σ (upd H s.heap.objs.size (.tup [x, y])) { s with heap := h'', toks := tk } :=
      I.turnedNew (t' := tk) (ch := lt5 z TI TO i1 i2) (fun c o hb q => (sb.2 c (fun q' => hb (by simp [lt5, q']))).trans (hk c o (fun q' => hb (by simp [lt5, q'])) (fun q' => hb (by simp [lt5, q'])) (fun q' => hb (by simp [lt5, q'])) (fun q' => hb (by simp [lt5, q'])) q)) hf (Nat.le_refl _) new
    refine ⟨.ref s.heap.objs.size, _, I1, rfl, ⟨_, x, y, rfl, I.hok.fresh (Nat.le_refl _), rfl, fun l hl => by rw [I.list_inj hl hqx]; exact hx, fun l hl => by rw [I.tuple_inj hl hqy]; exact hy⟩, ⟨⟨z'', ?_, w1, w2, ?_⟩, ?_, ?_⟩, fun c hcm => ?_⟩
    · exact (sb.2 _ D.TIz).trans (hk _ _ D.TIz D.TITO D.TIi1 D.TIi2 hTI)
    · exact (sb.2 _ D.TOz).trans TO'
    · exact s1'.1.at fun o q => (sb.2 _ D.i1z).trans q
    · exact s2'.1.at fun o q => (sb.2 _ D.i2z).trans q
    · have hlt : c < s.heap.objs.size := by
        rcases mem5 hcm with rfl | rfl | rfl | rfl | rfl
        · exact hzl
        · exact Heap.lt_size hTI
        · exact Heap.lt_size hTO
        · obtain ⟨_, e1, _⟩ := h1; exact Heap.lt_size e1
        · obtain ⟨_, e2, _⟩ := h2; exact Heap.lt_size e2
      rw [upd_ne (Nat.ne_of_lt hlt)]
      exact (hf c hcm).1
  done := by
    intro X hP hw hK hc i pins s σ H E I hf st hg
    subst hP hw hK
    obtain ⟨⟨hz, hTI, ⟨x0, y0, hTO⟩⟩, h1, h2⟩ := st
    obtain ⟨xs, ys, hqx, hqy, le1, le2, hend⟩ := hg
    obtain ⟨its, rv, p, _⟩ := I.list hqx
    obtain ⟨its2, rv2, p2, _⟩ := I.tuple hqy
    have l1 := rv.length
    have l2 := rv2.length
    have hh : X.A.in1.handled = none := I.ok.hd hc
    refine wpAny_pyNext_zipD2_end (sep5 D) (Draws.list hh i1 a D.l1i1 its.toArray) (Draws.tuple hh i2 b D.l2i2 its2.toArray) hz hTI hTO ⟨h1, p.isList⟩ ⟨h2, p2⟩ (by simp; omega) (by simp; omega) (by simp; omega) fun h' tk hk => ?_
    exact ⟨rfl, I.turnedL (t' := tk) (ch := lt5 z TI TO i1 i2) (fun c o hb q => hk c o (fun q' => hb (by simp [lt5, q'])) (fun q' => hb (by simp [lt5, q'])) (fun q' => hb (by simp [lt5, q'])) (fun q' => hb (by simp [lt5, q'])) q) hf⟩
  self := fun A i s Q E st h => wpAny_pyIter_zip st.1.1 h

section
variable {G : Gm} {W : WX} {X : Cx} {k : Nat} {α : List Addr} {H : Hp} {st : Store}
theorem itok_zipLT {a b : Addr} {xs ys : List D} {vs ws : List V} (t : LstAt α H a vs) (r : RepL G.K α H xs vs) (t2 : TupAt G.K α H b ws) (r2 : RepL G.K α H ys ws) : ItOk G (ItLT G.K a b) ⟨pairs xs ys, none⟩ α H where
  go := fun i x0 α1 st1 H1 l S _ e => by
    obtain ⟨x, y, ex, ey, rfl⟩ := pairs_at e
    obtain ⟨v, e1, R1⟩ := (r.mono l).get ex
    obtain ⟨w, e2, R2⟩ := (r2.mono l).get ey
    refine ⟨⟨vs, ws, v, w, (t.mono l).seq, (t2.mono l).seq, e1, e2⟩, fun u H' yy => ?_⟩
    obtain ⟨T, v', w', rfl, nT, rfl, f1, f2⟩ := yy
    have q1 := f1 vs (t.mono l).seq
    rw [e1] at q1; cases q1
    have q2 := f2 ws (t2.mono l).seq
    rw [e2] at q2; cases q2
    have lT : Le α1 H1 α1 (upd H1 T (.tup [v, w])) := Le.laid nT
    exact ⟨lT, S.laid nT, T, [v, w], rfl, ⟨S.notIn nT, .inl upd_same⟩, .cons (R1.mono lT) (.cons (R2.mono lT) .nil)⟩
  stop := fun α1 st1 H1 l S _ => ⟨vs, ws, (t.mono l).seq, (t2.mono l).seq, by
    have := r.len; have := r2.len
    simp only [pairs, List.length_map, List.length_zip]; omega⟩
def iZipLT (K : PySem.W.Frag) (ta : TA) : TI := fun σ H R => ta σ H fun vs H1 => ∃ a b xs ys, vs = [.ref a, .ref b] ∧ SqL K H1 a xs ∧ SqT K H1 b ys ∧ R (ItLT K a b) H1
theorem pi_zipLT {X : Cx} {e e2 : Expr} {ta : TA} {p pos tpos : Pos} {elts : List Expr} {kk : Nat} (hg : Gl X "zip") (hm : X.mg "zip" = none) (ha : PA X [e, e2] ta)
    (hs : starEach [e, e2] X.env = (false, eval e X.env) :: starEach [e2] X.env := by rfl) (hpl : (backTo pos (starEach [e2] X.env)).any (·.1) = false := by rfl) :
    PI X (.Tuple elts kk tpos) (.Call (.Name "zip" p) [e, e2] [] pos) (iZipLT X.K ta) := by
  refine ⟨fun pins s σ H R I h => ?_⟩
  refine Call_ (ld_blt I hg hm PyProof.Rows.boot_zip (PyProof.Rows.callWith_type1 (thn (ha.run pos pins s σ H _ I h) fun us s1 ⟨vs, H1, I1, r1, q1⟩ => ?_) hs hpl))
  obtain ⟨a, b, xs, ys, rfl, hqx, hqy, q⟩ := q1
  obtain ⟨u, u', rfl, ru, ru'⟩ : ∃ u u', us = [u, u'] ∧ RelV (.ref a) u ∧ RelV (.ref b) u' := by
    cases r1 with
    | cons r rr =>
      cases rr with
      | cons r' rr =>
        cases rr
        exact ⟨_, _, rfl, r, r'⟩
  cases ru
  cases ru'
  obtain ⟨its, rv, p1, _⟩ := I1.list hqx
  obtain ⟨its2, rv2, p2, _⟩ := I1.tuple hqy
  obtain ⟨o2, ho2, _⟩ := id p2
  have new5 : ∀ c, c ∈ lt5 (s1.heap.objs.size + 4) (s1.heap.objs.size + 2) (s1.heap.objs.size + 3) s1.heap.objs.size (s1.heap.objs.size + 1) → FpOk X pins H1 c := fun c hcm => by
    have hle : s1.heap.objs.size ≤ c := by
      rcases mem5 hcm with z | z | z | z | z <;> (rw [z]; omega)
    exact I1.fpOk hle (I1.hok.fresh hle)
  refine zip_begins2 (begins_list a its.toArray) (begins_tuple b its2.toArray) p1.isList p2 fun h' hz hTI hTO h1 h2 hsz hk => wpAny_pyIter_zip hz ?_
  have I2 : Inv X pins σ H1 { s1 with heap := h' } := I1.kept (t' := s1.toks) hk
  exact ⟨_, _, _, _, H1, rfl, I2, turn_LT (PySem.W.ktu_apart s1.heap.objs.size a b p1.lt (Heap.lt_size ho2)), ⟨⟨hz, hTI, _, _, hTO⟩, ⟨_, h1, rfl, rfl⟩, ⟨_, h2, rfl, rfl⟩⟩, new5, q⟩
def zipD2 (ds : List D) : Option ItD := match ds with
  | [.lst xs, .tup ys] => some ⟨pairs xs ys, none⟩
  | _ => none
def zip2E (f : DenL) : DenI := fun ρ st => (f ρ st).bind fun ds s => Res.of (zipD2 ds) s
theorem di_zip2 {e e2 : Expr} {f : DenL} {p pos tpos : Pos} {elts : List Expr} {kk : Nat} (C : Cm G X W k) (hg : Gl X "zip") (hm : X.mg "zip" = none) (ha : DA G X W [e, e2] f)
    (hs : starEach [e, e2] X.env = (false, eval e X.env) :: starEach [e2] X.env := by rfl) (hpl : (backTo pos (starEach [e2] X.env)).any (·.1) = false := by rfl) : DI G X W (.Tuple elts kk tpos) (.Call (.Name "zip" p) [e, e2] [] pos) (zip2E f) := by
  refine ⟨(pi_zipLT hg hm ha.pa hs hpl).imp ?_⟩
  intro σ H Q hq
  obtain ⟨ρ, st, α, E, S, q⟩ := hq
  refine ⟨ρ, st, α, E, S, (post.step (rp := RepL G.K) q).imp fun vs H1 ⟨ds, s1, α1, l, S1, R, q⟩ => ?_⟩
  unfold zipD2 at q
  rw [C.K]
  split at q
  · rename_i xs ys
    obtain ⟨v, w, rfl, r1, r2⟩ := R.two
    obtain ⟨a, us, rfl, t1, q1⟩ := (show ∃ a us, v = V.ref a ∧ LstAt α1 H1 a us ∧ RepL G.K α1 H1 xs us from r1)
    obtain ⟨b, ws, rfl, t2, q2⟩ := r2.tupOf
    exact ⟨a, b, us, ws, rfl, t1.seq, t2.seq, q _ α1 H1 .refl S1 (itok_zipLT t1 q1 t2 q2)⟩
  · exact q.elim
@[simp] theorem ap_zip2 (f : DenL) (ρ : Env) (st : Store) : zip2E f ρ st = (f ρ st).bind fun ds s => Res.of (zipD2 ds) s := Eq.trans rfl rfl
@[simp] theorem zip2_lt {xs ys : List D} : zipD2 [.lst xs, .tup ys] = some ⟨pairs xs ys, none⟩ := Eq.trans rfl rfl
end
end DL

namespace DL
open PySem PySem.Spec PyProof.Rows L2

/-! ### min(t), t a tuple of ints -/
section
variable {prog : Program} {w : World} {A : Around} {E : Value → Shared → Prop} {s : Shared} {l : Addr} {its : List Value} {ns : List Int}
theorem minT_raw {Q : Value → Shared → Prop} (hh : A.handled = none) (hl : s.heap.IsTuple l its.toArray) (hi : IntsAre its ns) (hne : 0 < ns.length)
    (h : ∀ h' tk M t', (∀ b o, s.heap.get? b = some o → h'.get? b = some o) → M ∈ ns → (∀ a, a ∈ ns → M ≤ a) → Q (.int M t') { s with heap := h', toks := tk }) : wpAny (model prog w) A (call (.builtin "min") [.ref l]) Q E s := by
  obtain ⟨xs, e⟩ := hi.allInts.items
  have hn : numsOf (intItems xs).toList = ns := by rw [← e]; exact hi.numsOf
  rw [nums_intItems] at hn
  subst hn
  rw [e] at hl
  have hsz : 0 < xs.size := by simpa using hne
  have hlt : l < s.heap.objs.size := by obtain ⟨_, z, _⟩ := hl; exact Heap.lt_size z
  refine call_min_walk (wpAny_pyIter_tuple hl ?_)
  refine ⟨s.heap.objs.size, _, _, _, _, _, _, rfl, Walks.tuple (A := A.in1) hh _ l (Nat.ne_of_lt hlt) (intItems xs), ⟨⟨_, Heap.get?_push_size _ rfl, rfl, rfl⟩, hl.push _⟩, fun b hb => ?_, by simpa [intItems] using hsz, CmpOf.ints_lt (numAt xs) (fun _ _ => intItems_at), fun v h' tk hP hk => ?_⟩
  · show b < (s.heap.push _).objs.size
    rw [Heap.size_push]
    rcases List.mem_cons.mp hb with rfl | hb
    · exact Nat.lt_succ_self _
    · cases List.mem_singleton.mp hb
      exact Nat.lt_succ_of_lt hlt
  · have hP : (intItems xs)[argBest (fun i j => decide (numAt xs i < numAt xs j)) (xs.size - 1)]? = some v := by simpa [intItems] using hP
    obtain ⟨t, rfl⟩ := intItems_at hP
    obtain ⟨h1, h2⟩ := argBest_lt (numAt xs) (xs.size - 1)
    refine h h' tk _ t (fun b o e => hk b o (fun hm => ?_) (Heap.get?_push_of_some _ e)) ?_ fun a ha => ?_
    · cases List.mem_singleton.mp hm
      exact absurd (Heap.lt_size e) (Nat.lt_irrefl _)
    · rw [numAt_eq]; exact PySem.getD_mem (by rw [List.length_map, Array.length_toList]; omega)
    · obtain ⟨j, hj, rfl⟩ := mem_getD ha
      rw [List.length_map, Array.length_toList] at hj
      rw [← numAt_eq]; exact h2 j (by omega)
end
def rMinT (K : PySem.W.Frag) : List V → Hp → VK → Prop := fun vs H Q => ∃ (a : Addr) (ns : List Int), vs = [V.ref a] ∧ SqT K H a (ns.map V.int) ∧ 0 < ns.length ∧ ∀ m, m ∈ ns → (∀ y, y ∈ ns → m ≤ y) → Q (.int m) H
section
variable {G : Gm} {W : WX} {X : Cx} {k : Nat} {e : Expr} {es : List Expr} {g : DenL} {p pos : Pos}
theorem cr_minT (hc : X.calm = true) : CallR X (.builtin "min") (rMinT X.K) := by
  intro pins s σ H vs us Q I r h
  obtain ⟨a, ns, rfl, hs, hne, q⟩ := h
  obtain ⟨its, rv, hl, _⟩ := I.tuple hs
  rw [Vals.ref1 r]
  exact minT_raw (I.ok.hd hc) hl rv.ints hne fun h' tk m t' hk h1 h2 => ⟨.int _, H, I.kept hk, ⟨_, rfl⟩, q m h1 h2⟩
def minTO : OL := fun ds st => match ds with
  | [.tup xs] => (intsOf xs).bind fun ns => if 0 < ns.length then some (.int (minI ns)) else none
  | _ => none
theorem cr_minTD (C : Cm G X W k) : CallR X (.builtin "min") (rdC G minTO) := by
  refine (cr_minT C.calm).imp fun vs H Q ⟨ds, st, α, S, R, g⟩ => ?_
  unfold minTO at g
  split at g
  · rename_i xs
    obtain ⟨v, rfl, r⟩ := R.one
    obtain ⟨a, us, rfl, t1, q1⟩ := r.tupOf
    cases hi : intsOf xs with
    | none => rw [hi] at g; exact g.elim
    | some ns =>
      rw [hi] at g
      have g : got G α H st (if 0 < ns.length then some (.int (minI ns)) else none) Q := g
      split at g
      · rename_i hl
        cases intsOf_eq hi
        cases RepL.of_ints q1
        rw [C.K]
        refine ⟨a, ns, rfl, t1.seq, hl, fun m hm hle => ?_⟩
        obtain ⟨h1, h2⟩ := minI_of hl
        have e : m = minI ns := Int.le_antisymm (hle _ h1) (h2 m hm)
        subst e
        exact got.here (d := .int _) S rfl g
      · exact g.elim
  · exact g.elim
theorem dc_minT (C : Cm G X W k) (hm : X.mg "min" = none) (ha : DA G X W (e :: es) g) (hg : Gl X "min" := by rfl) (he : starEach (e :: es) X.env = (false, eval e X.env) :: starEach es X.env := by rfl) (hpl : (backTo pos (starEach es X.env)).any (·.1) = false := by rfl) :
    DE G X W (.Call (.Name "min" p) (e :: es) [] pos) (opL minTO g) := de_callB (cr_minTD C) hg hm bt_min ha (he := he) (hpl := hpl)
end
@[simp] theorem minT_tup {xs : List D} {st : Store} : minTO [.tup xs] st = (intsOf xs).bind fun ns => if 0 < ns.length then some (.int (minI ns)) else none := Eq.trans rfl rfl
end DL

namespace DL
open PySem PySem.Spec PyProof.Rows L2

/-! ### keys -/
mutual
theorem nkD_inj : ∀ (a b : D) (x : NestedKey), nkD a = some x → nkD b = some x → a = b
  | .non, b, x, h, k => by
    cases h
    cases b <;> first | rfl | (simp [nkD] at k)
  | .int i, b, x, h, k => by
    cases h
    cases b <;> simp [nkD] at k
    rw [k]
  | .str i, b, x, h, k => by
    cases h
    cases b <;> simp [nkD] at k
    rw [k]
  | .tup xs, b, x, h, k => by
    have h : (nkL xs).map NestedKey.tup = some x := h
    obtain ⟨ys, h1, rfl⟩ := Option.map_eq_some_iff.mp h
    cases b <;> simp [nkD] at k
    rw [nkL_inj xs _ ys h1 k]
  | .bl _, _, _, h, _ => by cases h
  | .lst _, _, _, h, _ => by cases h
  | .ref _, _, _, h, _ => by cases h
  | .scr _, _, _, h, _ => by cases h
  | .ltp _, _, _, h, _ => by cases h
theorem nkL_inj : ∀ (a b : List D) (x : List NestedKey), nkL a = some x → nkL b = some x → a = b
  | [], b, x, h, k => by
    cases h
    cases b with
    | nil => rfl
    | cons y ys =>
      have k : ((nkD y).bind fun q => (nkL ys).map (q :: ·)) = some [] := k
      cases h1 : nkD y with
      | none => rw [h1] at k; cases k
      | some q =>
        rw [h1] at k
        have k : (nkL ys).map (q :: ·) = some [] := k
        obtain ⟨_, _, z⟩ := Option.map_eq_some_iff.mp k
        cases z
  | y :: ys, b, x, h, k => by
    have h : ((nkD y).bind fun q => (nkL ys).map (q :: ·)) = some x := h
    cases h1 : nkD y with
    | none => rw [h1] at h; cases h
    | some q =>
      rw [h1] at h
      obtain ⟨qs, h2, rfl⟩ := Option.map_eq_some_iff.mp (show (nkL ys).map (q :: ·) = some x from h)
      cases b with
      | nil => cases k
      | cons z zs =>
        have k : ((nkD z).bind fun q => (nkL zs).map (q :: ·)) = some (q :: qs) := k
        cases h3 : nkD z with
        | none => rw [h3] at k; cases k
        | some p =>
          rw [h3] at k
          obtain ⟨ps, h4, h5⟩ := Option.map_eq_some_iff.mp (show (nkL zs).map (p :: ·) = some (q :: qs) from k)
          cases h5
          rw [nkD_inj y z q h1 h3, nkL_inj ys zs qs h2 h4]
end
def flD : D → Option Key
  | .int i => some (.inl i)
  | .str x => some (.inr x)
  | _ => none
theorem flD_inj {a b : D} {x : Key} (h : flD a = some x) (k : flD b = some x) : a = b := by
  cases a <;> simp [flD] at h <;> subst h <;> cases b <;> simp [flD] at k <;> rw [k]
theorem flD_kD (k : Key) : flD (kD k) = some k := by cases k <;> rfl
theorem kD_flD {d : D} {k : Key} (h : flD d = some k) : d = kD k := flD_inj h (flD_kD k)
def tupKey : Option (List NestedKey) → Bool
  | some ks => decide ((NestedKey.tup ks).depth ≤ 8)
  | none => false
def keyFor (t : Bool) (k : D) : Bool := match t, k with
  | false, .int _ => true
  | false, .str _ => true
  | true, .tup xs => tupKey (nkL xs)
  | _, _ => false
theorem keyFor_f {k : D} (h : keyFor false k = true) : ∃ x, flD k = some x := by
  cases k <;> first | exact ⟨_, rfl⟩ | cases h
theorem keyFor_t {k : D} (h : keyFor true k = true) : ∃ x, nkD k = some x ∧ x.depth ≤ 8 := by
  cases k <;> first | cases h | skip
  rename_i xs
  have h : tupKey (nkL xs) = true := h
  cases hx : nkL xs with
  | none => rw [hx] at h; cases h
  | some ks =>
    rw [hx] at h
    exact ⟨.tup ks, by show (nkL xs).map NestedKey.tup = _; rw [hx]; rfl, of_decide_eq_true h⟩
/-! ### tables of data -/
def dFind (kvs : List (D × D)) (k : D) : Option (D × D) := kvs.find? fun p => decide (p.1 = k)
def dGet (kvs : List (D × D)) (k : D) : Option D := (dFind kvs k).map (·.2)
def dSet (k v : D) (p : D × D) : D × D := if p.1 = k then (p.1, v) else p
def dPut (kvs : List (D × D)) (k v : D) : List (D × D) := if (dFind kvs k).isSome then kvs.map (dSet k v) else kvs ++ [(k, v)]
section
variable {B κ : Type} [DecidableEq κ] {F : D × D → B → Prop} {f : D → Option κ} {g : B → κ} {k : D} {kk : κ}
theorem same_key (inj : ∀ {a b x}, f a = some x → f b = some x → a = b) {p : D} {q : κ} (h : f p = some q) (hk : f k = some kk) : p = k ↔ q = kk := by
  constructor
  · rintro rfl
    rw [h] at hk
    exact Option.some.inj hk
  · rintro rfl
    exact inj h hk
theorem find_pair (inj : ∀ {a b x}, f a = some x → f b = some x → a = b) (hF : ∀ p q, F p q → f p.1 = some (g q)) (hk : f k = some kk) {kvs : List (D × D)} {ys : List B} (P : Paired F kvs ys) :
    (dFind kvs k = none ∧ (ys.find? fun q => decide (g q = kk)) = none) ∨ ∃ p q, dFind kvs k = some p ∧ (ys.find? fun q => decide (g q = kk)) = some q ∧ F p q := by
  induction P with
  | nil => exact .inl ⟨rfl, rfl⟩
  | @cons p q _ _ r _ ih =>
    have hs := same_key inj (hF _ _ r) hk
    unfold dFind
    rw [List.find?_cons, List.find?_cons]
    by_cases h : p.1 = k
    · rw [decide_eq_true h, decide_eq_true (hs.mp h)]
      exact .inr ⟨_, _, rfl, rfl, r⟩
    · rw [decide_eq_false h, decide_eq_false fun z => h (hs.mpr z)]
      exact ih
theorem map_pair {φ : D × D → D × D} {ψ : B → B} (h : ∀ p q, F p q → F (φ p) (ψ q)) {kvs : List (D × D)} {ys : List B} (P : Paired F kvs ys) : Paired F (kvs.map φ) (ys.map ψ) := by
  induction P with
  | nil => exact .nil
  | cons r _ ih => exact .cons (h _ _ r) ih
theorem snoc_pair {kvs : List (D × D)} {ys : List B} (P : Paired F kvs ys) {p : D × D} {q : B} (h : F p q) : Paired F (kvs ++ [p]) (ys ++ [q]) := by
  induction P with
  | nil => exact .cons h .nil
  | cons r _ ih => exact .cons r ih
end
section
variable {G : Gm} {α : List Addr} {H : Hp} {a : Addr}
abbrev FK (G : Gm) (α : List Addr) (H : Hp) : D × D → Key × V → Prop := fun p q => p.1 = kD q.1 ∧ keyOk q.1 ∧ Rep G.K α H p.2 q.2
abbrev FT (G : Gm) (α : List Addr) (H : Hp) : D × D → NestedKey × Addr × Value → Prop := fun p q => nkD p.1 = some q.1 ∧ q.1.depth ≤ 8 ∧ Rep G.K α H p.1 (.ref q.2.1) ∧ ∃ v, RelV v q.2.2 ∧ Rep G.K α H p.2 v
theorem fk_key (p : D × D) (q : Key × V) (h : FK G α H p q) : flD p.1 = some q.1 := by rw [h.1]; exact flD_kD _
theorem ft_key (p : D × D) (q : NestedKey × Addr × Value) (h : FT G α H p q) : nkD p.1 = some q.1 := h.1
theorem fk_get {kvs : List (D × D)} {ks : List (Key × V)} (P : Paired (FK G α H) kvs ks) (k : Key) : (dGet kvs (kD k) = none ∧ valV ks k = none) ∨ ∃ d v, dGet kvs (kD k) = some d ∧ valV ks k = some v ∧ Rep G.K α H d v := by
  rcases find_pair (f := flD) (g := fun q : Key × V => q.1) (k := kD k) (kk := k) flD_inj (fun p q h => fk_key p q h) (flD_kD k) P with ⟨e1, e2⟩ | ⟨p, q, e1, e2, h⟩
  · left
    unfold dGet valV
    rw [e1, e2]
    exact ⟨rfl, rfl⟩
  · right
    unfold dGet valV
    rw [e1, e2]
    exact ⟨_, _, rfl, rfl, h.2.2⟩
theorem ft_get {kvs : List (D × D)} {xs : List (NestedKey × Addr × Value)} (P : Paired (FT G α H) kvs xs) {k : D} {kk : NestedKey} (hk : nkD k = some kk) :
    (dGet kvs k = none ∧ atKey xs kk = none) ∨ ∃ d v p, dGet kvs k = some d ∧ atKey xs kk = some p ∧ RelV v p.2 ∧ Rep G.K α H d v := by
  rcases find_pair (f := nkD) (g := fun q : NestedKey × Addr × Value => q.1) (k := k) (kk := kk) (fun h1 h2 => nkD_inj _ _ _ h1 h2) (fun p q h => ft_key p q h) hk P with ⟨e1, e2⟩ | ⟨p, q, e1, e2, h⟩
  · left
    unfold dGet atKey
    rw [e1, e2]
    exact ⟨rfl, rfl⟩
  · right
    unfold dGet atKey
    rw [e1, e2]
    obtain ⟨v, h1, h2⟩ := h.2.2.2
    exact ⟨_, v, _, rfl, rfl, h1, h2⟩
theorem fk_put {kvs : List (D × D)} {ks : List (Key × V)} (P : Paired (FK G α H) kvs ks) {k : Key} (ko : keyOk k) {d : D} {v : V} (r : Rep G.K α H d v) : Paired (FK G α H) (dPut kvs (kD k) d) (putK ks k v) := by
  unfold dPut putK
  rw [valV_any]
  have hm : Paired (FK G α H) (kvs.map (dSet (kD k) d)) (ks.map fun kv => if kv.1 = k then (kv.1, v) else kv) := map_pair (fun p q h => by
    unfold dSet
    have hs := same_key (f := flD) flD_inj (fk_key p q h) (flD_kD k)
    by_cases e : p.1 = kD k
    · rw [if_pos e, if_pos (hs.mp e)]; exact ⟨h.1, h.2.1, r⟩
    · rw [if_neg e, if_neg fun z => e (hs.mpr z)]; exact h) P
  rcases fk_get P k with ⟨e1, e2⟩ | ⟨d', v', e1, e2, _⟩
  · have : dFind kvs (kD k) = none := Option.map_eq_none_iff.mp e1
    rw [this, e2]
    exact snoc_pair P ⟨rfl, ko, r⟩
  · obtain ⟨p, h1, _⟩ := Option.map_eq_some_iff.mp e1
    have : dFind kvs (kD k) = some p := h1
    rw [this, e2]
    exact hm
theorem ft_put {kvs : List (D × D)} {xs : List (NestedKey × Addr × Value)} (P : Paired (FT G α H) kvs xs) {k : D} {kk : NestedKey} (hk : nkD k = some kk) (h8 : kk.depth ≤ 8) {b : Addr} (rb : Rep G.K α H k (.ref b)) {d : D} {v : V} {u : Value} (rv : RelV v u) (r : Rep G.K α H d v) :
    Paired (FT G α H) (dPut kvs k d) (storedH xs kk b u) := by
  unfold dPut storedH
  have hm : Paired (FT G α H) (kvs.map (dSet k d)) (xs.map (putAt kk u)) := map_pair (fun p q h => by
    unfold dSet putAt
    have hs := same_key (f := nkD) (fun h1 h2 => nkD_inj _ _ _ h1 h2) (ft_key p q h) hk
    by_cases e : p.1 = k
    · rw [if_pos e, if_pos (hs.mp e)]; exact ⟨h.1, h.2.1, h.2.2.1, v, rv, r⟩
    · rw [if_neg e, if_neg fun z => e (hs.mpr z)]; exact h) P
  rcases ft_get P hk with ⟨e1, e2⟩ | ⟨d', v', q, e1, e2, _⟩
  · have : dFind kvs k = none := Option.map_eq_none_iff.mp e1
    rw [this, e2]
    exact snoc_pair P ⟨hk, h8, rb, v, rv, r⟩
  · obtain ⟨p, h1, _⟩ := Option.map_eq_some_iff.mp e1
    have : dFind kvs k = some p := h1
    rw [this, e2]
    exact hm
end
/-! ### a key's object -/
section
variable {G : Gm} {X : Cx} {pins : List (Addr × Obj)} {σ : L2.St} {H : Hp} {s : Shared} {α : List Addr}
mutual
theorem nested_is (I : Inv X pins σ H s) (hK : X.K = G.K) : ∀ (d : D) (v : V) (u : Value) (k : NestedKey), Rep G.K α H d v → RelV v u → nkD d = some k → NestedIs s.heap k u
  | .non, v, u, k, r, ru, e => by
    cases e
    cases (show v = V.non from r)
    cases (show u = Value.none from ru)
    exact .none
  | .int i, v, u, k, r, ru, e => by
    cases e
    cases (show v = V.int i from r)
    obtain ⟨t, rfl⟩ := (show ∃ t, u = Value.int i t from ru)
    exact .int i t
  | .str x, v, u, k, r, ru, e => by
    cases e
    cases (show v = V.str x from r.1)
    obtain ⟨t, rfl⟩ := (show ∃ t, u = Value.str x t from ru)
    exact .text x t
  | .tup xs, v, u, k, r, ru, e => by
    obtain ⟨ks, h1, rfl⟩ := Option.map_eq_some_iff.mp (show (nkL xs).map NestedKey.tup = some k from e)
    obtain ⟨a, vs, rfl, t, rl⟩ := r.tupOf
    cases (show u = Value.ref a from ru)
    have t := t.seq
    rw [← hK] at t
    obtain ⟨its, rv, ⟨o, e1, e2, n, e3⟩, _⟩ := I.tuple t
    exact .tup e1 e2 e3 (nested_all I hK xs vs its ks rl rv h1)
  | .bl _, _, _, _, _, _, e => by cases e
  | .lst _, _, _, _, _, _, e => by cases e
  | .ref _, _, _, _, _, _, e => by cases e
  | .scr _, _, _, _, _, _, e => by cases e
  | .ltp _, _, _, _, _, _, e => by cases e
theorem nested_all (I : Inv X pins σ H s) (hK : X.K = G.K) : ∀ (ds : List D) (vs : List V) (us : List Value) (ks : List NestedKey), RepL G.K α H ds vs → Vals vs us → nkL ds = some ks → NestedAll s.heap ks us
  | [], vs, us, ks, r, rv, e => by
    cases (show vs = [] from r)
    cases rv
    cases e
    exact .nil
  | d :: ds, vs, us, ks, r, rv, e => by
    obtain ⟨v, vs', rfl, h1, h2⟩ := (show ∃ v r, vs = v :: r ∧ Rep G.K α H d v ∧ RepL G.K α H ds r from r)
    cases rv with
    | cons ru rus =>
      have e : ((nkD d).bind fun k => (nkL ds).map (k :: ·)) = some ks := e
      cases h3 : nkD d with
      | none => rw [h3] at e; cases e
      | some k =>
        rw [h3] at e
        obtain ⟨ks', h4, rfl⟩ := Option.map_eq_some_iff.mp (show (nkL ds).map (k :: ·) = some ks from e)
        exact .cons (nested_is I hK d v _ k h1 ru h3) (nested_all I hK ds vs' _ ks' h2 rus h4)
end
end
/-! ### what a dict's cell tells -/
def dctV (st : Store) (d : D) : Option (Bool × List (D × D)) := match d with
  | .ref n => match st[n]? with
    | some (.dct t kvs) => some (t, kvs)
    | some (.lkd t kvs) => some (t, kvs)
    | _ => none
  | _ => none
section
variable {G : Gm} {W : WX} {X : Cx} {k : Nat} {α : List Addr} {H : Hp} {st : Store} {pins : List (Addr × Obj)} {σ : L2.St} {s : Shared} {a : Addr} {t : Bool} {u : HO} {kvs : List (D × D)}
theorem dctV_ok (S : SR G α st H) {d : D} {v : V} (r : Rep G.K α H d v) (e : dctV st d = some (t, kvs)) : ∃ a u, v = .ref a ∧ Rd H a u ∧ DctU G α H a t u kvs := by
  cases d with
  | ref n =>
    obtain ⟨a, rfl, q⟩ := (show ∃ a, v = V.ref a ∧ α[n]? = some a from r)
    have e : (match st[n]? with | some (.dct t kvs) => some (t, kvs) | some (.lkd t kvs) => some (t, kvs) | _ => none) = some (t, kvs) := e
    split at e
    · rename_i hs
      cases e
      obtain ⟨u, h1, h2⟩ := S.cell n a _ q hs
      exact ⟨a, u, rfl, .inl h1, h2⟩
    · rename_i hs
      cases e
      obtain ⟨o, u, h1, h2⟩ := S.cell n a _ q hs
      exact ⟨a, u, rfl, .inr ⟨o, h1⟩, h2⟩
    · cases e
  | _ => cases e
theorem ft_is (C : Cm G X W k) (I : Inv X pins σ H s) {xs : List (NestedKey × Addr × Value)} (P : Paired (FT G α H) kvs xs) : ∀ x ∈ xs, (nestedKind X.prog X.w).is s.heap x.1 x.2.1 := by
  induction P with
  | nil => exact fun x hx => nomatch hx
  | cons q _ ih =>
    intro x hx
    rcases List.mem_cons.mp hx with rfl | hx
    · exact ⟨nested_is I C.K _ _ _ _ q.2.2.1 rfl q.1, q.2.1⟩
    · exact ih x hx
theorem dka_of (C : Cm G X W k) (I : Inv X pins σ H s) {xs : List (NestedKey × Addr × Value)} (r : Rd H a (.ext (DKA G a xs))) (P : Paired (FT G α H) kvs xs) : (a == sysModules) = false ∧ xs.length ≤ sizeLine ∧ s.heap.DictOfH (nestedKind X.prog X.w) a xs := by
  obtain ⟨⟨h1, h2, o, es, ep, h3, h4, h5, h6, h7⟩, _⟩ := (show _ ∧ _ from r.ok I.hok)
  refine ⟨h1, h2, o, es, ep, h3, h4, h5, ?_, ft_is C I P, h7⟩
  rw [C.pr, C.wd]; exact h6
theorem dct_type (C : Cm G X W k) (I : Inv X pins σ H s) (r : Rd H a u) (U : DctU G α H a t u kvs) : s.TypeIs (.ref a) "dict" ∧ (∀ b, Value.ref a = .ref b → ∃ ob, s.heap.get? b = some ob ∧ ob.dict = none) ∧ (a == sysModules) = false := by
  cases t with
  | false =>
    obtain ⟨ks, rfl, P⟩ := U
    exact isD_at I (.inl ⟨ks, r⟩)
  | true =>
    obtain ⟨xs, rfl, P⟩ := U
    obtain ⟨h1, _, hm⟩ := dka_of C I r P
    refine ⟨hm.typeIs, fun b q => ?_, h1⟩
    cases q
    obtain ⟨ob, _, _, h1, h2, _⟩ := hm
    exact ⟨ob, h1, h2.2.1⟩
variable {A : Around} {E : Value → Shared → Prop} {kd : D} {y : V} {uy : Value}
theorem key_is (C : Cm G X W k) (I : Inv X pins σ H s) (kf : keyFor true kd = true) (rk : Rep G.K α H kd y) (ry : RelV y uy) : ∃ nk b, nkD kd = some nk ∧ nk.depth ≤ 8 ∧ uy = .ref b ∧ y = .ref b ∧ (nestedKind X.prog X.w).is s.heap nk b := by
  obtain ⟨nk, h1, h2⟩ := keyFor_t kf
  cases kd with
  | tup xs =>
    obtain ⟨b, vs, rfl, _⟩ := (show ∃ b vs, y = V.ref b ∧ _ from rk.tupOf)
    have e := ry
    cases (show uy = Value.ref b from ry)
    exact ⟨nk, b, h1, h2, rfl, rfl, nested_is I C.K _ _ _ _ rk rfl h1, h2⟩
  | _ => cases kf
theorem key_fl (kf : keyFor false kd = true) (rk : Rep G.K α H kd y) : ∃ x, kd = kD x ∧ y = kV x ∧ keyOk x := by
  cases kd with
  | int i => exact ⟨.inl i, rfl, rk, trivial⟩
  | str x => exact ⟨.inr x, rfl, rk.1, rk.2⟩
  | _ => cases kf
theorem room_nk {A : Around} (hu : A.units + 60 < cLine) : (nestedKind X.prog X.w).room A.in1 := by
  show A.units + 1 + 8 < cLine
  omega
theorem g_get {d : D} {Q : Value → Shared → Prop} (C : Cm G X W k) (hu : A.units + 60 < cLine) (I : Inv X pins σ H s) (r : Rd H a u) (U : DctU G α H a t u kvs) (kf : keyFor t kd = true) (rk : Rep G.K α H kd y) (ry : RelV y uy) (e : dGet kvs kd = some d)
    (h : ∀ v w' s', Rep G.K α H d v → RelV v w' → Inv X pins σ H s' → Q w' s') : wpAny (model X.prog X.w) A (getItem (.ref a) uy) Q E s := by
  cases t with
  | false =>
    obtain ⟨ks, rfl, P⟩ := U
    obtain ⟨x, rfl, rfl, _⟩ := key_fl kf rk
    rcases fk_get P x with ⟨e1, _⟩ | ⟨d', v, e1, e2, R⟩
    · rw [e1] at e; cases e
    · rw [e1] at e; cases e
      exact d_getItem (v := v) (by omega) I (.inl ⟨ks, x, r, rfl, e2.symm⟩) ry fun w' s' I' rw' => h v w' s' R rw' I'
  | true =>
    obtain ⟨xs, rfl, P⟩ := U
    obtain ⟨h1, h2, hm⟩ := dka_of C I r P
    obtain ⟨nk, b, e1, e2, rfl, rfl, hk⟩ := key_is C I kf rk ry
    rcases ft_get P e1 with ⟨e3, _⟩ | ⟨d', v, p, e3, e4, rv, R⟩
    · rw [e3] at e; cases e
    · rw [e3] at e; cases e
      exact wpAny_getItem_heap (room_nk hu) hk hm e4 (h v p.2 _ R rv (I.tok _))
theorem g_in {Q : Value → Shared → Prop} (C : Cm G X W k) (hu : A.units + 60 < cLine) (I : Inv X pins σ H s) (r : Rd H a u) (U : DctU G α H a t u kvs) (kf : keyFor t kd = true) (rk : Rep G.K α H kd y) (ry : RelV y uy)
    (h : ∀ s', Inv X pins σ H s' → Q (.bool (dGet kvs kd).isSome) s') : wpAny (model X.prog X.w) A (compareOp .In uy (.ref a)) Q E s := by
  cases t with
  | false =>
    obtain ⟨ks, rfl, P⟩ := U
    obtain ⟨x, rfl, rfl, _⟩ := key_fl kf rk
    have e : (dGet kvs (kD x)).isSome = (valV ks x).isSome := by rcases fk_get P x with ⟨e1, e2⟩ | ⟨d', v, e1, e2, R⟩ <;> rw [e1, e2] <;> rfl
    rw [e] at h
    exact d_in (by omega) I (.inl ⟨ks, x, r, rfl, rfl⟩) ry h
  | true =>
    obtain ⟨xs, rfl, P⟩ := U
    obtain ⟨h1, h2, hm⟩ := dka_of C I r P
    obtain ⟨nk, b, e1, e2, rfl, rfl, hk⟩ := key_is C I kf rk ry
    have e : (dGet kvs kd).isSome = (atKey xs nk).isSome := by rcases ft_get P e1 with ⟨e3, e4⟩ | ⟨d', v, p, e3, e4, _⟩ <;> rw [e3, e4] <;> rfl
    rw [e] at h
    exact wpAny_in_heap (room_nk hu) hk h1 hm (h _ (I.tok _))
theorem g_nin {Q : Value → Shared → Prop} (C : Cm G X W k) (hu : A.units + 60 < cLine) (I : Inv X pins σ H s) (r : Rd H a u) (U : DctU G α H a t u kvs) (kf : keyFor t kd = true) (rk : Rep G.K α H kd y) (ry : RelV y uy)
    (h : ∀ s', Inv X pins σ H s' → Q (.bool (!(dGet kvs kd).isSome)) s') : wpAny (model X.prog X.w) A (compareOp .NotIn uy (.ref a)) Q E s := by
  cases t with
  | false =>
    obtain ⟨ks, rfl, P⟩ := U
    obtain ⟨x, rfl, rfl, _⟩ := key_fl kf rk
    have e : (dGet kvs (kD x)).isSome = (valV ks x).isSome := by rcases fk_get P x with ⟨e1, e2⟩ | ⟨d', v, e1, e2, R⟩ <;> rw [e1, e2] <;> rfl
    rw [e] at h
    exact d_notIn (by omega) I (.inl ⟨ks, x, r, rfl, rfl⟩) ry h
  | true =>
    obtain ⟨xs, rfl, P⟩ := U
    obtain ⟨h1, h2, hm⟩ := dka_of C I r P
    obtain ⟨nk, b, e1, e2, rfl, rfl, hk⟩ := key_is C I kf rk ry
    have e : (dGet kvs kd).isSome = (atKey xs nk).isSome := by rcases ft_get P e1 with ⟨e3, e4⟩ | ⟨d', v, p, e3, e4, _⟩ <;> rw [e3, e4] <;> rfl
    rw [e] at h
    exact wpAny_notIn_heap (room_nk hu) hk h1 hm (h _ (I.tok _))
theorem g_getOr {dz : D} {z : V} {uz : Value} {Q : Value → Shared → Prop} (C : Cm G X W k) (hu : A.units + 60 < cLine) (I : Inv X pins σ H s) (r : Rd H a u) (U : DctU G α H a t u kvs) (kf : keyFor t kd = true) (rk : Rep G.K α H kd y) (ry : RelV y uy) (rz : Rep G.K α H dz z) (rzu : RelV z uz)
    (h : ∀ v w' s', Rep G.K α H ((dGet kvs kd).getD dz) v → RelV v w' → Inv X pins σ H s' → Q w' s') : wpAny (model X.prog X.w) A (call (.builtin "dict.get") [.ref a, uy, uz]) Q E s := by
  cases t with
  | false =>
    obtain ⟨ks, rfl, P⟩ := U
    obtain ⟨x, rfl, rfl, _⟩ := key_fl kf rk
    refine d_get2 (d := z) (by omega) I (.inl ⟨ks, x, r, rfl, rfl⟩) ry rzu fun w' s' I' rw' => h ((valV ks x).getD z) w' s' ?_ rw' I'
    rcases fk_get P x with ⟨e1, e2⟩ | ⟨d', v, e1, e2, R⟩ <;> rw [e1, e2]
    · exact rz
    · exact R
  | true =>
    obtain ⟨xs, rfl, P⟩ := U
    obtain ⟨h1, h2, hm⟩ := dka_of C I r P
    obtain ⟨nk, b, e1, e2, rfl, rfl, hk⟩ := key_is C I kf rk ry
    refine getOr_keyed (room_nk hu) hk h1 ⟨xs, hm, rfl⟩ ?_
    rw [valueAt_pairsH]
    rcases ft_get P e1 with ⟨e3, e4⟩ | ⟨d', v, p, e3, e4, rv, R⟩
    · rw [e3] at h
      rw [e4]
      exact h z _ _ rz rzu (I.tok _)
    · rw [e3] at h
      rw [e4]
      exact h v _ _ R rv (I.tok _)
end
end DL

namespace DL
open PySem PySem.Spec PyProof.Rows L2

/-! ### dicts: looking up -/
def dgetD : O2 := fun a kd st => (dctV st a).bind fun p => if keyFor p.1 kd then dGet p.2 kd else none
def dinD : O2 := fun kd a st => (dctV st a).bind fun p => if keyFor p.1 kd then some (.bl (dGet p.2 kd).isSome) else none
def dninD : O2 := fun kd a st => (dctV st a).bind fun p => if keyFor p.1 kd then some (.bl (!(dGet p.2 kd).isSome)) else none
theorem tells_din : Tells dinD := fun kd a st d h => by
  unfold dinD at h
  cases hv : dctV st a with
  | none => rw [hv] at h; cases h
  | some p =>
    rw [hv] at h
    have h : (if keyFor p.1 kd = true then some (D.bl (dGet p.2 kd).isSome) else none) = some d := h
    split at h
    · cases h; exact ⟨_, rfl⟩
    · cases h
theorem tells_dnin : Tells dninD := fun kd a st d h => by
  unfold dninD at h
  cases hv : dctV st a with
  | none => rw [hv] at h; cases h
  | some p =>
    rw [hv] at h
    have h : (if keyFor p.1 kd = true then some (D.bl (!(dGet p.2 kd).isSome)) else none) = some d := h
    split at h
    · cases h; exact ⟨_, rfl⟩
    · cases h
section
variable {G : Gm} {W : WX} {X : Cx} {k : Nat} {α : List Addr} {H : Hp} {st : Store} {o i e z : Expr} {f g h : Den} {pos pos' apos cpos : Pos}
theorem de_dget (C : Cm G X W k) (ho : DE G X W o f) (hi : DE G X W i g) (hs : NoSl i := by intro _ _; rfl) : DE G X W (.Subscript o i pos) (op2 dgetD f g) := by
  refine ⟨⟨fun pins s σ H Q I hq => ?_⟩⟩
  have hu := C.room.units
  refine subD_of PySem.F.slot_dict_getitem.lookup hs (thn (ho.pe.run pins s σ H _ I (rd2_of hq)) fun u s1 ⟨x, H1, I1, rx, q1⟩ => thn (hi.pe.run pins s1 σ H1 _ I1 q1) fun iv s2 ⟨y, H2, I2, ry, d, kd, st, α, S, r1, r2, w⟩ => ?_)
  unfold dgetD at w
  cases hv : dctV st d with
  | none => rw [hv] at w; exact w.elim
  | some p =>
    obtain ⟨t, kvs⟩ := p
    rw [hv] at w
    have w : got G α H2 st (if keyFor t kd = true then dGet kvs kd else none) Q := w
    split at w
    · rename_i hk
      obtain ⟨a, uu, rfl, r, U⟩ := dctV_ok S r1 hv
      obtain rfl : u = Value.ref a := rx
      cases hg : dGet kvs kd with
      | none => rw [hg] at w; exact w.elim
      | some dd =>
        rw [hg] at w
        exact ⟨(dct_type C I2 r U).1, g_get C (by omega) I2 r U hk r2 ry hg fun v w' s' R rw' I' => ⟨v, H2, I', rw', got.here S R w⟩⟩
    · exact w.elim
theorem op_din (C : Cm G X W k) : OpR X (compareOp .In) (rd2 G dinD) := by
  intro pins s σ H x y v u Q I rx ry ⟨kd, d, st, α, S, r1, r2, w⟩
  have hu := C.room.units
  unfold dinD at w
  cases hv : dctV st d with
  | none => rw [hv] at w; exact w.elim
  | some p =>
    obtain ⟨t, kvs⟩ := p
    rw [hv] at w
    have w : got G α H st (if keyFor t kd = true then some (.bl (dGet kvs kd).isSome) else none) Q := w
    split at w
    · rename_i hk
      obtain ⟨a, uu, rfl, r, U⟩ := dctV_ok S r2 hv
      obtain rfl : u = Value.ref a := ry
      exact g_in C (by omega) I r U hk r1 rx fun s' I' => ⟨.bl _, H, I', rfl, got.here (d := .bl _) S rfl w⟩
    · exact w.elim
theorem op_dnin (C : Cm G X W k) : OpR X (compareOp .NotIn) (rd2 G dninD) := by
  intro pins s σ H x y v u Q I rx ry ⟨kd, d, st, α, S, r1, r2, w⟩
  have hu := C.room.units
  unfold dninD at w
  cases hv : dctV st d with
  | none => rw [hv] at w; exact w.elim
  | some p =>
    obtain ⟨t, kvs⟩ := p
    rw [hv] at w
    have w : got G α H st (if keyFor t kd = true then some (.bl (!(dGet kvs kd).isSome)) else none) Q := w
    split at w
    · rename_i hk
      obtain ⟨a, uu, rfl, r, U⟩ := dctV_ok S r2 hv
      obtain rfl : u = Value.ref a := ry
      exact g_nin C (by omega) I r U hk r1 rx fun s' I' => ⟨.bl _, H, I', rfl, got.here (d := .bl _) S rfl w⟩
    · exact w.elim
/-- d.get(k, z) -/
def getOrO (a kd zd : D) (st : Store) : Option D := (dctV st a).bind fun p => if keyFor p.1 kd then some ((dGet p.2 kd).getD zd) else none
def getOrE (f g h : Den) : Den := fun ρ st => (f ρ st).bind fun a s => guardR ((dctV s a).isSome = true) ((g ρ s).bind fun kd s2 => (h ρ s2).bind fun zd s3 => Res.of (getOrO a kd zd s3) s3)
theorem de_getOr (C : Cm G X W k) (ho : DE G X W o f) (he : DE G X W e g) (hz : DE G X W z h) (m : M2 X o "get" apos e z cpos := by exact ⟨rfl, rfl, rfl, rfl⟩) : DE G X W (.Call (.Attribute o "get" apos) [e, z] [] cpos) (getOrE f g h) := by
  refine ⟨⟨fun pins s σ H Q I hq => ?_⟩⟩
  have hu := C.room.units
  obtain ⟨ρ, st, α, E, S, q⟩ := hq
  refine wpAny_Call_method m.base m.few m.line PySem.F.plainAttrs_dict PySem.F.slot_dict_get PySem.F.type_dict_get (thn (ho.pe.run pins s σ H _ I ⟨ρ, st, α, E, S, post.step (rp := Rep G.K) q⟩) fun u s1 ⟨x, H1, I1, rx, d, st1, α1, l1, S1, R1, q1⟩ => ?_)
  obtain ⟨hs, q1⟩ := guardR_post q1
  cases hv : dctV st1 d with
  | none => rw [hv] at hs; cases hs
  | some p =>
    obtain ⟨t, kvs⟩ := p
    obtain ⟨a, uu, rfl, r, U⟩ := dctV_ok S1 R1 hv
    obtain rfl : u = Value.ref a := rx
    obtain ⟨t1, t2, _⟩ := dct_type C I1 r U
    refine ⟨t1, t2, ?_⟩
    rw [m.trees]
    refine Calls.callWith_builtin rfl (Calls.evalArgs_plain (Calls.spliced_cons (thn (he.pe.run pins s1 σ H1 _ I1 ⟨ρ, st1, α1, E.mono l1, S1, post.step (rp := Rep G.K) q1⟩) fun iv s2 ⟨y, H2, I2, ry, kd, st2, α2, l2, S2, R2, q2⟩ =>
      Calls.spliced_cons (thn (hz.pe.run pins s2 σ H2 _ I2 ⟨ρ, st2, α2, (E.mono l1).mono l2, S2, post.step (rp := Rep G.K) q2⟩) fun fv s3 ⟨zz, H3, I3, rz, zd, st3, α3, l3, S3, R3, q3⟩ => Calls.spliced_nil ?_))))
    have w := got.of q3
    unfold getOrO at w
    cases hv3 : dctV st3 d with
    | none => rw [hv3] at w; exact w.elim
    | some p =>
      obtain ⟨t3, kvs3⟩ := p
      rw [hv3] at w
      have w : got G α3 H3 st3 (if keyFor t3 kd = true then some ((dGet kvs3 kd).getD zd) else none) Q := w
      split at w
      · rename_i hk
        obtain ⟨a', u3, ea, r3, U3⟩ := dctV_ok S3 ((R1.mono l2).mono l3) hv3
        cases ea
        exact g_getOr C (by omega) I3 r3 U3 hk (R2.mono l3) ry R3 rz fun v w' s' R rw' I' => ⟨v, H3, I', rw', got.here S3 R w⟩
      · exact w.elim
end
/-! ### dicts: made, changed -/
section
variable {G : Gm} {W : WX} {X : Cx} {k : Nat} {α : List Addr} {H : Hp} {st : Store} {pins : List (Addr × Obj)} {σ : L2.St} {s : Shared} {a : Addr}
theorem ext_ok {P : Program} {w : World} {xs : List (NestedKey × Addr × Value)} {h' : Heap} (h : DKA G a xs h') : ObjOk P w H h' a (.ext (DKA G a xs)) :=
  ⟨h, let ⟨_, _, o, _, _, e, _⟩ := h; ⟨o, e⟩, fun h1 h2 ⟨x1, x2, o, es, ep, e, r⟩ st => ⟨x1, x2, o, es, ep, st o e, r⟩⟩
def newKE : Den := fun _ st => .ok (.ref st.length) (st ++ [.dct false []])
def newTE : Den := fun _ st => .ok (.ref st.length) (st ++ [.dct true []])
theorem SR.at_new (S : SR G α st H) {p : Addr} {H' : Hp} : Rep G.K (α ++ [p]) H' (.ref st.length) (.ref p) := ⟨p, rfl, by rw [← S.len, List.getElem?_append_right (Nat.le_refl _)]; simp⟩
theorem de_newK {pos : Pos} : DE G X W (.Dict [] [] pos) newKE :=
  ⟨pe_dnewK.imp fun σ H Q ⟨ρ, st, α, E, S, q⟩ => fun p n => q (.ref p) (α ++ [p]) _ (Le.new n (S.notIn n)) (S.new (c := .dct false []) n ⟨_, upd_same, [], rfl, .nil⟩) S.at_new⟩
theorem dka_empty (h : Heap) (hb : sysModules < h.objs.size) : DKA G h.objs.size [] (h.push { cls := .type "dict", data := .dict #[] }) :=
  ⟨beq_eq_false_iff_ne.mpr (Ne.symm (Nat.ne_of_lt hb)), Nat.zero_le _, _, #[], 0, Heap.get?_push_size _ rfl, ⟨rfl, rfl, rfl⟩, rfl, rfl, List.nodup_nil⟩
theorem lay_dka (I : Inv X pins σ H s) : Inv X pins σ (upd H s.heap.objs.size (.ext (DKA G s.heap.objs.size []))) { s with heap := s.heap.push { cls := .type "dict", data := .dict #[] } } :=
  I.laid (a := s.heap.objs.size) (t' := s.toks) (fun _ _ q => Heap.get?_push_of_some _ q) (Nat.le_refl _) (ext_ok (dka_empty s.heap I.big))
theorem SR.newT (S : SR G α st H) {p : Addr} (n : H p = none) : SR G (α ++ [p]) (st ++ [.dct true []]) (upd H p (.ext (DKA G p []))) := S.new (c := .dct true []) n ⟨_, upd_same, [], rfl, .nil⟩
theorem de_newT {pos : Pos} : DE G X W (.Dict [] [] pos) newTE :=
  ⟨⟨fun pins s σ H Q I ⟨ρ, st, α, E, S, q⟩ => by
    have n := I.hok.fresh (Nat.le_refl s.heap.objs.size)
    exact wpAny_Dict_empty ⟨.ref s.heap.objs.size, _, lay_dka I, rfl, q (.ref s.heap.objs.size) (α ++ [s.heap.objs.size]) _ (Le.new n (S.notIn n)) (S.newT n) S.at_new⟩⟩⟩
theorem storedH_len {xs : List (NestedKey × Addr × Value)} {kk : NestedKey} {b : Addr} {u : Value} : (storedH xs kk b u).length ≤ xs.length + 1 := by
  unfold storedH
  split <;> simp
theorem g_set {n : Nat} {t : Bool} {kvs : List (D × D)} {kd dv : D} {y v : V} {uy uv : Value} {A : Around} {E : Value → Shared → Prop} {Q : Unit → Shared → Prop} (C : Cm G X W k) (hu : A.units + 60 < cLine) (I : Inv X pins σ H s) (S : SR G α st H) (ha : α[n]? = some a)
    (e : st[n]? = some (.dct t kvs)) (kf : keyFor t kd = true) (hl : kvs.length < sizeLine) (rk : Rep G.K α H kd y) (ry : RelV y uy) (rv : Rep G.K α H dv v) (rvu : RelV v uv)
    (h : ∀ H' s', Le α H α H' → SR G α (st.set n (.dct t (dPut kvs kd dv))) H' → Inv X pins σ H' s' → Q () s') : wpAny (model X.prog X.w) A (setItem (.ref a) uy uv) Q E s := by
  have hm := List.mem_of_getElem? ha
  obtain ⟨u, hH, U⟩ := S.cell n a _ ha e
  cases t with
  | false =>
    obtain ⟨ks, rfl, P⟩ := U
    obtain ⟨x, rfl, rfl, ko⟩ := key_fl kf rk
    have hl2 : ks.length < sizeLine := by rw [← Paired.length P]; exact hl
    refine d_setItem (by omega) I (DPut.k (v := v) hH hl2) ry rvu fun s' I' => ?_
    have l : Le α H α (upd H a (.dK (putK ks x v))) := Le.write hm
    have U' : DctU G α H a false (.dK (putK ks x v)) (dPut kvs (kD x) dv) := ⟨_, rfl, fk_put P ko rv⟩
    exact h _ s' l (S.write (c := .dct false (dPut kvs (kD x) dv)) ha ⟨_, upd_same, U'.mono l⟩) I'
  | true =>
    obtain ⟨xs, rfl, P⟩ := U
    obtain ⟨h1, h2, hmx⟩ := dka_of C I (.inl hH) P
    obtain ⟨nk, b, e1, e2, rfl, rfl, hk⟩ := key_is C I kf rk ry
    have hx : xs.length < sizeLine := by rw [← Paired.length P]; exact hl
    refine wpAny_setItem_heap (hsz := by omega) (room_nk hu) hk hmx fun h' dd' hs => ?_
    obtain ⟨q, es, ep, hq, h3, h4, h5, _, h6⟩ := dd'
    have hsl := storedH_len (xs := xs) (kk := nk) (b := b) (u := uv)
    have dk : DKA G a (storedH xs nk b uv) h' := ⟨h1, by omega, q, es, ep, hq, h3, h4, by rw [← C.pr, ← C.wd]; exact h5, h6⟩
    have l : Le α H α (upd H a (.ext (DKA G a (storedH xs nk b uv)))) := Le.write hm
    have U' : DctU G α H a true (.ext (DKA G a (storedH xs nk b uv))) (dPut kvs kd dv) := ⟨_, rfl, ft_put P e1 e2 rk rvu rv⟩
    exact h _ _ l (S.write (c := .dct true (dPut kvs kd dv)) ha ⟨_, upd_same, U'.mono l⟩) (d_write I (by rw [hH]; exact True.intro) hs ⟨q, hq⟩ (ext_ok dk))
/-- d[k] = e -/
def putA (t : Bool) (kvs : List (D × D)) (n : Nat) (kd d : D) (s : Store) : Option Store := if keyFor t kd = true ∧ kvs.length < sizeLine then some (s.set n (.dct t (dPut kvs kd d))) else none
def putR (a kd d : D) (s : Store) : Option Store := match a with
  | .ref n => match s[n]? with
    | some (.dct t kvs) => putA t kvs n kd d s
    | _ => none
  | _ => none
def putS (e x i : Den) : DenS := fun ρ st => thenO (e ρ st) ρ fun d s => thenO (x ρ s) ρ fun a s2 => thenO (i ρ s2) ρ fun b s3 => storeO (putR a b d s3) fun s4 => .next ρ s4
theorem ds_put {e o i : Expr} {f g h : Den} {pos pos' : Pos} (C : Cm G X W k) (he : DE G X W e f) (ho : DE G X W o g) (hi : DE G X W i h) (hs : swapsWith e (some (.Subscript o i pos')) pos.line X.env = pure false := by rfl) :
    DS G X W (.Assign [.Subscript o i pos'] e pos) (putS f g h) := by
  refine ⟨⟨fun pins s σ H D I hq => ?_⟩⟩
  have hu := C.room.units
  obtain ⟨ρ, st, α, E, S, q⟩ := hq
  refine wpAny_Assign_Subscript (thn (he.pe.run pins s σ H _ I ⟨ρ, st, α, E, S, postS.step (rp := Rep G.K) E q⟩) fun r s1 ⟨v, H1, I1, rv, dv, st1, α1, l1, S1, R1, q1⟩ =>
    thn (ho.pe.run pins s1 σ H1 _ I1 ⟨ρ, st1, α1, E.mono l1, S1, postS.step (rp := Rep G.K) (E.mono l1) q1⟩) fun u s2 ⟨x, H2, I2, rx, d, st2, α2, l2, S2, R2, q2⟩ =>
    thn (hi.pe.run pins s2 σ H2 _ I2 ⟨ρ, st2, α2, (E.mono l1).mono l2, S2, postS.step (rp := Rep G.K) ((E.mono l1).mono l2) q2⟩) fun iv s3 ⟨y, H3, I3, ry, kd, st3, α3, l3, S3, R3, q3⟩ => ?_) hs
  cases hp : putR d kd dv st3 with
  | none => rw [hp] at q3; exact q3.elim
  | some s4 =>
    rw [hp] at q3
    cases d with
    | ref n =>
      have hp : (match st3[n]? with | some (.dct t kvs) => putA t kvs n kd dv st3 | _ => none) = some s4 := hp
      split at hp
      · rename_i t kvs hc
        unfold putA at hp
        split at hp
        · rename_i hk
          cases hp
          obtain ⟨a, rfl, ha⟩ := (show ∃ a, x = V.ref a ∧ α3[n]? = some a from R2.mono l3)
          obtain rfl : u = Value.ref a := rx
          exact g_set C (by omega) I3 S3 ha hc hk.1 hk.2 R3 ry ((R1.mono l2).mono l3) rv fun H' s' l S' I' => ⟨σ, H', I', q3 σ α3 H' l S' ((((E.mono l1).mono l2).mono l3).mono l)⟩
        · cases hp
      · cases hp
    | _ => cases hp
end
end DL

namespace DL
open PySem PySem.Spec PyProof.Rows L2

/-! ### exceptions -/
/-- what is known of an exception's class -/
structure ExcF (G : Gm) (mg : Str → Option Value) (x : Str) : Prop where
  gl : mg x = some (.ref (G.ca x))
  ex : PySem.W.excIn G.K (G.ca x) He.veBase "ValueError.__new__" = true
  kp : PySem.W.keepIn G.K (.ref (G.ca x)) = true
  sb : PySem.W.subIn G.K (.ref (G.ca x)) (.type "BaseException") = some true
  ty : PySem.W.typeIn G.K (.ref (G.ca x)) = some (.type "type")
theorem excF_of {G : Gm} {h : Heap} {mg : Str → Option Value} {x : Str} (hca : ∀ x, G.ca x = He.ga G.K x) (X : G.K.In h) (N : h.Ns mainGlobals mg) (c : (He.Fa.glo x).ok G.K = true) (d : (He.Fa.exc x).ok G.K = true) : ExcF G mg x := by
  obtain ⟨h1, h2, h3, h4⟩ := He.exc_ok d
  refine ⟨?_, ?_, ?_, ?_, ?_⟩ <;> rw [hca]
  · exact He.glo_ok X N c
  all_goals assumption
/-- which classes a clause catches -/
def CatchF (G : Gm) (x : Str) (ms : List (Str × Bool)) : Prop := ∀ p ∈ ms, PySem.W.exmOne G.K (.ref (G.ca p.1)) (.ref (G.ca x)) = some p.2
theorem catch_nil {G : Gm} {x : Str} : CatchF G x [] := fun p hp => nomatch hp
theorem catch_cons {G : Gm} {x y : Str} {b : Bool} {ms : List (Str × Bool)} (hca : ∀ x, G.ca x = He.ga G.K x) (c : (He.Fa.exm y x b).ok G.K = true) (t : CatchF G x ms) : CatchF G x ((y, b) :: ms) := fun p hp => by
  rcases List.mem_cons.mp hp with rfl | hp
  · rw [hca, hca]; exact He.exm_ok c
  · exact t p hp
theorem lookup_mem {A : Type} {c : Str} {bb : A} : ∀ {ms : List (Str × A)}, ms.lookup c = some bb → (c, bb) ∈ ms
  | [], h => by cases h
  | p :: ms, h => by
    rw [List.lookup_cons] at h
    by_cases e : c = p.1
    · subst e
      simp at h
      subst h
      exact List.mem_cons_self
    · rw [show (c == p.1) = false by simpa using e] at h
      exact List.mem_cons_of_mem _ (lookup_mem h)
def raiseS (c : Str) : DenS := fun ρ st => .exc c ρ st
/-- behind a try's body -/
def catchO (ms : List (Str × Bool)) (o : Out) (h : DenS) : Out := match o with
  | .exc c ρ s => (match ms.lookup c with
    | some true => h ρ s
    | some false => .exc c ρ s
    | none => .stuck)
  | o => o
def tryS (ms : List (Str × Bool)) (b h : DenS) : DenS := fun ρ st => catchO ms (b ρ st) h
section
variable {G : Gm} {W : WX} {X : Cx} {k : Nat} {x : Str} {p pos pos' np : Pos}
theorem pmk_own0 (F : ExcF G X.mg x) (hK : X.K = G.K) (hg : Gl X x) (hdb : (x == ("__debug__" : Str)) = false := by decide) : PMk X (.Call (.Name x p) [] [] pos) (fun _ H Q => Q (.ref (G.ca x)) none H) := by
  intro pins s σ H Q I h
  refine wpAny_Call_Name_kw (ld_glob I hg F.gl ?_ hdb)
  have h1 := F.ex
  have h2 := F.kp
  have h3 := F.sb
  have h4 := F.ty
  rw [← hK] at h1 h2 h3 h4
  refine PySem.W.callWith_K0 I.kIn h2 ?_
  obtain ⟨bm, N, nm, qn, bs, hdct, sn, sub, ab, col, dd, k0, k1, k2, k3, k5, mN, hC, hN, hni, T⟩ := exc_obj I.kIn h1
  refine wpAny_call_exc_subT PySem.F.excBase_ValueError T hC hN hni (fun h' e hm => ?_) (by show 0 ≤ sizeLine; exact Nat.zero_le _)
  exact mk_of I hm (raises_own h3 h4) h (I.hok.gone hm.new)
theorem ds_raise (C : Cm G X W k) (F : ExcF G X.mg x) (hg : Gl X x) (hdb : (x == ("__debug__" : Str)) = false := by decide) : DS G X W (.Raise (some (.Call (.Name x p) [] [] pos)) none pos') (raiseS x) :=
  ⟨(ps_raise C.calm C.tk (pmk_own0 F C.K hg hdb)).imp fun D σ H ⟨ρ, st, α, E, S, q⟩ => q σ α H .refl S E⟩
theorem ds_try {body suite : List Stmt} {b₀ : Stmt} {b h : DenS} {ms : List (Str × Bool)} (C : Cm G X W k) (hs : X.stack = X.env :: X.outer) (hf : X.env.frame = some X.env.locals) (F : ExcF G X.mg x) (M : CatchF G x ms) (hg : Gl X x)
    (hb : ∀ (W' : WX) (pn : List (Addr × Obj)) (xe : Value → Shared → Prop), Cm G (X.tr pn xe) W' k → DSs G (X.tr pn xe) W' body b)
    (hsu : ∀ (a : Addr) (pn : List (Addr × Obj)), DSs G (X.suite a pn) W (b₀ :: suite) h) (hdb : (x == ("__debug__" : Str)) = false := by decide) :
    DS G X W (.Try body [.ExceptHandler (some (.Name x np)) none (b₀ :: suite) pos'] [] [] pos) (tryS ms b h) := by
  refine ⟨(ps_try_only (ts := fun _ _ _ => rdS G W h) (tb := fun W' => rdS G W' b) hs hf ⟨hg, hdb, .inl F.gl⟩ C.tk (fun W' pn xe tk _ => (hb W' pn xe ⟨C.K, C.calm, C.pr, C.wd, C.room, tk⟩).ps) (fun a oe cls d pn _ _ => (hsu a ((a, oe) :: pn)).ps)).imp ?_⟩
  intro D σ H ⟨ρ, st, α, E, S, q⟩
  refine ⟨ρ, st, α, E, S, ?_⟩
  have q : postS G W α H (catchO ms (b ρ st) h) D := q
  cases hbd : b ρ st with
  | exc c ρ' s' =>
    rw [hbd] at q
    have q : postS G W α H (match ms.lookup c with | some true => h ρ' s' | some false => .exc c ρ' s' | none => .stuck) D := q
    intro σ' α' H' l S' E'
    cases hm : ms.lookup c with
    | none => rw [hm] at q; exact q.elim
    | some bb =>
      have hmem : (c, bb) ∈ ms := lookup_mem hm
      have hx := M _ hmem
      rw [← C.K] at hx
      rw [hm] at q
      refine ⟨bb, hx, fun z a na => ?_, fun z => ?_⟩
      · subst z
        exact ⟨ρ', s', α', E', S', postS.mono l q⟩
      · subst z
        exact q σ' α' H' l S' E'
  | next ρ' s' => rw [hbd] at q; exact q
  | ret d s' => rw [hbd] at q; exact q
  | brk ρ' s' => rw [hbd] at q; exact q
  | cont ρ' s' => rw [hbd] at q; exact q
  | stuck => rw [hbd] at q; exact q
end
@[simp] theorem ap_raise {c : Str} {ρ : Env} {st : Store} : raiseS c ρ st = .exc c ρ st := Eq.trans rfl rfl
@[simp] theorem ap_try {ms : List (Str × Bool)} {b h : DenS} {ρ : Env} {st : Store} : tryS ms b h ρ st = catchO ms (b ρ st) h := Eq.trans rfl rfl
@[simp] theorem catch_next {ms : List (Str × Bool)} {h : DenS} {ρ : Env} {st : Store} : catchO ms (.next ρ st) h = .next ρ st := Eq.trans rfl rfl
@[simp] theorem catch_ret {ms : List (Str × Bool)} {h : DenS} {d : D} {st : Store} : catchO ms (.ret d st) h = .ret d st := Eq.trans rfl rfl
@[simp] theorem catch_exc {ms : List (Str × Bool)} {h : DenS} {c : Str} {ρ : Env} {st : Store} : catchO ((c, true) :: ms) (.exc c ρ st) h = h ρ st := by
  show (match ((c, true) :: ms).lookup c with | some true => h ρ st | some false => .exc c ρ st | none => .stuck) = _
  rw [List.lookup_cons, beq_self_eq_true]
end DL

namespace DL
open PySem PySem.Spec PyProof.Rows L2

/-! ### lists of ints in order -/
def ltI : List Int → List Int → Bool
  | [], [] => false
  | [], _ :: _ => true
  | _ :: _, [] => false
  | x :: xs, y :: ys => if x = y then ltI xs ys else decide (x < y)
theorem first_lt (ns ms : List Int) : ∀ (m i : Nat), i + m = min ns.length ms.length →
    SeqAt.firstLt (fun j => decide (ns.getD j 0 = ms.getD j 0)) (fun j => decide (ns.getD j 0 < ms.getD j 0)) (decide (ns.length < ms.length)) (List.range' i m) = ltI (ns.drop i) (ms.drop i)
  | 0, i, h => by
    show decide (ns.length < ms.length) = _
    by_cases hl : ns.length < ms.length
    · rw [List.drop_of_length_le (l := ns) (by omega), decide_eq_true hl]
      cases e : ms.drop i with
      | nil => have := congrArg List.length e; simp at this; omega
      | cons y ys => rfl
    · rw [decide_eq_false hl, List.drop_of_length_le (l := ms) (by omega)]
      cases ns.drop i <;> rfl
  | m + 1, i, h => by
    have h1 : i < ns.length := by omega
    have h2 : i < ms.length := by omega
    have ih := first_lt ns ms m (i + 1) (by omega)
    rw [List.range'_succ]
    rw [List.drop_eq_getElem_cons h1, List.drop_eq_getElem_cons h2]
    have g1 : ns.getD i 0 = ns[i] := by simp [h1]
    have g2 : ms.getD i 0 = ms[i] := by simp [h2]
    show (if decide (ns.getD i 0 = ms.getD i 0) = true then SeqAt.firstLt _ _ _ (List.range' (i + 1) m) else decide (ns.getD i 0 < ms.getD i 0)) = if ns[i] = ms[i] then ltI (ns.drop (i + 1)) (ms.drop (i + 1)) else decide (ns[i] < ms[i])
    rw [g1, g2, ih]
    by_cases e : ns[i] = ms[i] <;> simp [e]
def ltLD : O2 := fun a b st => (viewL st a).bind fun xs => (viewL st b).bind fun ys => (intsOf xs).bind fun ns => (intsOf ys).map fun ms => .bl (ltI ns ms)
theorem tells_ltL : Tells ltLD := fun a b st d h => by
  unfold ltLD at h
  obtain ⟨xs, _, h⟩ := Option.bind_eq_some_iff.mp h
  obtain ⟨ys, _, h⟩ := Option.bind_eq_some_iff.mp h
  obtain ⟨ns, _, h⟩ := Option.bind_eq_some_iff.mp h
  obtain ⟨ms, _, h⟩ := Option.map_eq_some_iff.mp h
  exact ⟨_, h.symm⟩
section
variable {G : Gm} {W : WX} {X : Cx} {k : Nat} {α : List Addr} {H : Hp}
theorem intsOf_ok : ∀ {xs : List D} {ns : List Int} {vs : List V}, intsOf xs = some ns → RepL G.K α H xs vs → vs = ns.map V.int
  | [], ns, vs, e, r => by
    cases e
    exact r
  | x :: xs, ns, vs, e, r => by
    obtain ⟨v, vs', rfl, h1, h2⟩ := (show ∃ v r, vs = v :: r ∧ Rep G.K α H x v ∧ RepL G.K α H xs r from r)
    cases x with
    | int i =>
      obtain ⟨ms, e1, rfl⟩ := Option.map_eq_some_iff.mp (show (intsOf xs).map (i :: ·) = some ns from e)
      rw [intsOf_ok e1 h2]
      cases (show v = V.int i from h1)
      rfl
    | _ => cases e
theorem op_ltL (C : Cm G X W k) : OpR X (compareOp .Lt) (rd2 G ltLD) := by
  intro pins s σ H x y v u Q I rx ry ⟨d, e, st, α, S, r1, r2, g⟩
  have hu := C.room.units
  unfold ltLD at g
  cases h1 : viewL st d with
  | none => rw [h1] at g; exact g.elim
  | some xs =>
    rw [h1] at g
    cases h2 : viewL st e with
    | none => rw [h2] at g; exact g.elim
    | some ys =>
      rw [h2] at g
      cases h3 : intsOf xs with
      | none => rw [show ((some xs).bind fun xs => (some ys).bind fun ys => (intsOf xs).bind fun ns => (intsOf ys).map fun ms => D.bl (ltI ns ms)) = (intsOf xs).bind fun ns => (intsOf ys).map fun ms => D.bl (ltI ns ms) from rfl, h3] at g; exact g.elim
      | some ns =>
        cases h4 : intsOf ys with
        | none => rw [show ((some xs).bind fun xs => (some ys).bind fun ys => (intsOf xs).bind fun ns => (intsOf ys).map fun ms => D.bl (ltI ns ms)) = (intsOf xs).bind fun ns => (intsOf ys).map fun ms => D.bl (ltI ns ms) from rfl, h3, h4] at g; exact g.elim
        | some ms =>
          rw [show ((some xs).bind fun xs => (some ys).bind fun ys => (intsOf xs).bind fun ns => (intsOf ys).map fun ms => D.bl (ltI ns ms)) = (intsOf xs).bind fun ns => (intsOf ys).map fun ms => D.bl (ltI ns ms) from rfl, h3, h4] at g
          have g : got G α H st (some (.bl (ltI ns ms))) Q := g
          obtain ⟨a, vs, rfl, t1, q1⟩ := viewL_ok S r1 h1
          obtain ⟨b, ws, rfl, t2, q2⟩ := viewL_ok S r2 h2
          rw [intsOf_ok h3 q1] at t1
          rw [intsOf_ok h4 q2] at t2
          obtain rfl : v = Value.ref a := rx
          obtain rfl : u = Value.ref b := ry
          obtain ⟨_, is1, n1, v1, l1⟩ := I.hok a _ t1
          obtain ⟨_, is2, n2, v2, l2⟩ := I.hok b _ t2
          have z1 : ns.length = is1.length := by rw [← v1.length, List.length_map]
          have z2 : ms.length = is2.length := by rw [← v2.length, List.length_map]
          have at1 : ∀ j (hj : j < is1.length), ∃ t, is1[j] = .int (ns.getD j 0) t := fun j hj => by
            obtain ⟨x, hx, rx⟩ := v1.get (i := j) (x := .int (ns.getD j 0)) (by rw [List.getElem?_map, List.getElem?_eq_getElem (by omega)]; simp [show j < ns.length by omega])
            rw [List.getElem?_eq_getElem hj] at hx
            cases hx
            exact rx
          have at2 : ∀ j (hj : j < is2.length), ∃ t, is2[j] = .int (ms.getD j 0) t := fun j hj => by
            obtain ⟨x, hx, rx⟩ := v2.get (i := j) (x := .int (ms.getD j 0)) (by rw [List.getElem?_map, List.getElem?_eq_getElem (by omega)]; simp [show j < ms.length by omega])
            rw [List.getElem?_eq_getElem hj] at hx
            cases hx
            exact rx
          have rc := SeqAt.RcLt.lists (A := X.A) (s := s) (l := a) (b := b) (items := is1.toArray) (items2 := is2.toArray) (e := fun j => decide (ns.getD j 0 = ms.getD j 0)) (r := fun j => decide (ns.getD j 0 < ms.getD j 0))
            ⟨_, l1, rfl, n1, rfl⟩ ⟨_, l2, rfl, n2, rfl⟩ (by omega) (fun j h1 h2 => by
              obtain ⟨t, e1⟩ := at1 j (by simpa using h1)
              obtain ⟨t', e2⟩ := at2 j (by simpa using h2)
              have := SeqAt.EqAt.int_int (A := X.A.in1) (s := s) (ns.getD j 0) t (ms.getD j 0) t'
              rw [List.getElem_toArray, List.getElem_toArray, e1, e2]
              exact this) (fun j h1 h2 _ => by
              obtain ⟨t, e1⟩ := at1 j (by simpa using h1)
              obtain ⟨t', e2⟩ := at2 j (by simpa using h2)
              rw [List.getElem_toArray, List.getElem_toArray, e1, e2]
              exact fun prog w E Q h => PyProof.Rows.lt_int h)
          refine rc X.prog X.w X.xe (EP X pins σ Q) ⟨.bl _, H, I, rfl, ?_⟩
          have ef := first_lt ns ms (min ns.length ms.length) 0 (by omega)
          rw [List.drop_zero, List.drop_zero, ← List.range_eq_range'] at ef
          simp only [List.size_toArray, ← z1, ← z2]
          rw [ef]
          exact got.here (d := .bl _) S rfl g
end
@[simp] theorem ltL_ints {ns ms : List Int} {st : Store} : ltLD (.lst (ns.map .int)) (.lst (ms.map .int)) st = some (.bl (ltI ns ms)) := by
  show ((intsOf (ns.map .int)).bind fun ns => (intsOf (ms.map .int)).map fun ms => D.bl (ltI ns ms)) = _
  rw [ints_of, ints_of]
  rfl
end DL

namespace DL
open PySem PySem.Spec PyProof.Rows L2
/-! ### str(an int) -/
theorem strOk_of (x : String) : PyData.strOk (x : Str) = true := by
  unfold PyData.strOk
  rw [Str.ofString_eq_toList]
  show ((x.toList.map Char.toNat).toArray).all _ = true
  rw [List.all_toArray, List.all_eq_true]
  intro n hn
  obtain ⟨c, _, rfl⟩ := List.mem_map.mp hn
  have : c.toNat < 0x110000 := by
    have := c.valid
    unfold UInt32.isValidChar Nat.isValidChar at this
    show c.val.toNat < _
    omega
  simpa using this
section
variable {G : Gm} {W : WX} {X : Cx} {k : Nat} {e : Expr} {es : List Expr} {g : DenL} {p pos : Pos}
theorem cr_strD : CallR X (.type "str") (rdC G strO) := call_str_int.imp fun vs H Q ⟨ds, st, α, S, R, g⟩ => by
  unfold strO at g
  split at g
  · obtain ⟨v, rfl, r⟩ := R.one
    cases (show v = _ from r)
    split at g
    · rename_i h
      exact ⟨_, rfl, h, got.here (d := .str _) S ⟨rfl, strOk_of _⟩ g⟩
    · exact g.elim
  · exact g.elim
theorem dc_str (C : Cm G X W k) (hm : X.mg "str" = none) (ha : DA G X W (e :: es) g) (hg : Gl X "str" := by rfl) (he : starEach (e :: es) X.env = (false, eval e X.env) :: starEach es X.env := by rfl) (hpl : (backTo pos (starEach es X.env)).any (·.1) = false := by rfl) :
    DE G X W (.Call (.Name "str" p) (e :: es) [] pos) (opL strO g) := de_callTy cr_strD hg hm bt_str ha (he := he) (hpl := hpl)
end
@[simp] theorem cell_2 {c c1 : Cell} {r : Store} {xs : List D} : cellL (c :: c1 :: .lst xs :: r) (.ref 2) = some (2, xs) := Eq.trans rfl rfl
@[simp] theorem cell_3 {c c1 c2 : Cell} {r : Store} {xs : List D} : cellL (c :: c1 :: c2 :: .lst xs :: r) (.ref 3) = some (3, xs) := Eq.trans rfl rfl
@[simp] theorem cell_4 {c c1 c2 c3 : Cell} {r : Store} {xs : List D} : cellL (c :: c1 :: c2 :: c3 :: .lst xs :: r) (.ref 4) = some (4, xs) := Eq.trans rfl rfl
end DL

namespace DL
open PySem PySem.Spec PyProof.Rows L2 PySem.W
/-! ### max(xs), of things alike -/
def maxL : D → List D → D := fun x r => r.foldl (fun a y => if dataLt (toPy a) (toPy y) then y else a) x
def maxAO : OL := fun ds st => match ds with
  | [d] => (view st d).bind fun xs => match xs with
    | [] => none
    | x :: r => if sortOk (x :: r) then some (maxL x r) else none
  | _ => none
section
variable {G : Gm} {W : WX} {X : Cx} {k : Nat} {α : List Addr} {H : Hp} {st : Store}
theorem sortOk_alikeAll {xs : List D} (h : sortOk xs = true) : AlikeAll (xs.map toPy) := by
  refine ⟨fun a ha b hb => sortOk_alike h a ha b hb, fun d hd => ?_⟩
  have h := (Bool.and_eq_true_iff.mp (Bool.and_eq_true_iff.mp h).2).2
  obtain ⟨a, ha, rfl⟩ := List.mem_map.mp hd
  rcases Bool.or_eq_true_iff.mp h with h | h
  · have := List.all_eq_true.mp h a ha
    cases a <;> first | cases this; done | simp [toPy]
  · have := List.all_eq_true.mp h a ha
    cases a <;> first | cases this; done | simp [toPy]
theorem readsAll_of {pins : List (Addr × Obj)} {σ : L2.St} {s : Shared} (hK : X.K = G.K) (I : Inv X pins σ H s) : ∀ {xs : List D} {us : List Value}, (∀ d ∈ xs, fits d 60 = true) → EachIs (Stands G α H) us xs → ∃ as, ReadsAll s.heap us (xs.map toPy) as
  | [], _, _, e => by
    cases e
    exact ⟨_, .nil⟩
  | x :: xs, _, hf, e => by
    cases e with
    | cons a b =>
      obtain ⟨y, h1, h2⟩ := a
      have q := (dp_of x 60 y (hf x (by simp)) h2).1
      rw [← hK] at q
      obtain ⟨as, r1⟩ := Dp.reads I _ y _ q h1
      obtain ⟨bs, r2⟩ := readsAll_of hK I (fun d m => hf d (by simp [m])) b
      exact ⟨_, .cons r1 r2⟩
theorem each_at {R : Value → D → Prop} : ∀ {us : List Value} {xs : List D}, EachIs R us xs → ∀ (i : Nat) (v : Value), us[i]? = some v → ∃ x, xs[i]? = some x ∧ R v x
  | _, _, .nil, i, v, h => by simp at h
  | _, _, .cons a b, 0, v, h => by
    cases (show some _ = some v from h)
    exact ⟨_, rfl, a⟩
  | _, _, .cons a b, i + 1, v, h => each_at b i v (by simpa using h)
theorem each_len {R : Value → D → Prop} : ∀ {us : List Value} {xs : List D}, EachIs R us xs → us.length = xs.length
  | _, _, .nil => rfl
  | _, _, .cons a b => by simp [each_len b]
theorem depthAll_of : ∀ {xs : List D}, (∀ d ∈ xs, fits d 60 = true) → PyData.depthAll (xs.map toPy) ≤ 61
  | [], _ => Nat.zero_le _
  | x :: xs, h => by
    have h1 := depth_toPy x 60 (h x (by simp))
    have h2 := depthAll_of (xs := xs) fun d m => h d (by simp [m])
    exact Nat.max_le.mpr ⟨by omega, h2⟩
theorem max_both {A : Around} {prog : Program} {w : World} {E : Value → Shared → Prop} {s : Shared} {l : Addr} {vs : List Value} {x : PyData} {xs : List PyData} {as : List Addr} {Q : Value → Shared → Prop} (hh : A.handled = none) (hl : s.heap.IsList l vs.toArray ∨ s.heap.IsTuple l vs.toArray) (hr : ReadsAll s.heap vs (x :: xs) as) (ha : AlikeAll (x :: xs)) (hu : A.units + 1 + PyData.depthAll (x :: xs) < cLine)
    (h : ∀ v h' tk, vs[argBest (fun i j => dataLt ((x :: xs).getD j .none) ((x :: xs).getD i .none)) xs.length]? = some v → (∀ b o, s.heap.get? b = some o → h'.get? b = some o) → Q v { s with heap := h', toks := tk }) :
    wpAny (model prog w) A (call (.builtin "max") [.ref l]) Q E s := by
  have hr' : ReadsAll s.heap vs.toArray.toList (x :: xs) as := hr
  have hn : vs.toArray.size = xs.length + 1 := readsAll_len hr'
  rcases hl with hl | hl
  · refine call_max_walkH (iter_listW (A := A.in1) hh hl fun s₂ e W st hfp hw hk => ?_)
    refine ⟨_, _, _, _, _, _, _, s.heap, _, rfl, W, st, hfp, by omega, hw, hk, cmpIn_gt (A := A.in1) hr' ha (by show A.units + 1 + _ < _; exact hu), fun v s' hP m => ?_⟩
    obtain ⟨h', tk, rfl, hk'⟩ := moved_old e rfl m
    have e1 : vs.toArray.size - 1 = xs.length := by omega
    rw [e1] at hP
    exact h _ h' tk (by simpa using hP) hk'
  · refine call_max_walkH (iter_tupleW (A := A.in1) hh hl fun s₂ e W st hfp hw hk => ?_)
    refine ⟨_, _, _, _, _, _, _, s.heap, _, rfl, W, st, hfp, by omega, hw, hk, cmpIn_gt (A := A.in1) hr' ha (by show A.units + 1 + _ < _; exact hu), fun v s' hP m => ?_⟩
    obtain ⟨h', tk, rfl, hk'⟩ := moved_old e rfl m
    have e1 : vs.toArray.size - 1 = xs.length := by omega
    rw [e1] at hP
    exact h _ h' tk (by simpa using hP) hk'
theorem getD_map {xs : List D} {j : Nat} : (xs.map toPy).getD j .none = toPy (xs.getD j .non) := by
  rw [List.getD_eq_getElem?_getD, List.getD_eq_getElem?_getD, List.getElem?_map]
  cases xs[j]? <;> rfl
theorem cr_maxA (C : Cm G X W k) : CallR X (.builtin "max") (rdC G maxAO) := by
  intro pins s σ H vs us Q I rv ⟨ds, st, α, S, R, g⟩
  unfold maxAO at g
  split at g
  · rename_i d
    obtain ⟨v, rfl, r⟩ := R.one
    cases hv : view st d with
    | none => rw [hv] at g; exact g.elim
    | some xs =>
      rw [hv] at g
      cases xs with
      | nil => exact g.elim
      | cons x xs =>
        have g : got G α H st (if sortOk (x :: xs) then some (maxL x xs) else none) Q := g
        split at g
        · rename_i ok
          obtain ⟨a, its, rfl, hs, e1, few⟩ := sort_pre C I S r hv
          rw [Vals.ref1 rv]
          have hu := C.room.units
          obtain ⟨as, hr⟩ := readsAll_of C.K I (fun d m => sortOk_fits ok m) e1
          have hd := depthAll_of (xs := x :: xs) (fun d m => sortOk_fits ok m)
          refine max_both (I.ok.hd C.calm) hs hr (sortOk_alikeAll ok) (by rw [← List.map_cons (f := toPy)]; omega) fun v h' tk hv' hk => ?_
          rw [← List.map_cons (f := toPy), List.length_map] at hv'
          have ef : (fun i j => dataLt (((x :: xs).map toPy).getD j .none) (((x :: xs).map toPy).getD i .none)) = fun i j => (fun a b => dataLt (toPy b) (toPy a)) ((x :: xs).getD i .non) ((x :: xs).getD j .non) := by
            funext i j
            rw [getD_map, getD_map]
          rw [ef] at hv'
          obtain ⟨f1, f2⟩ := argBest_fold (fun a b => dataLt (toPy b) (toPy a)) D.non x xs xs.length (Nat.le_refl _)
          rw [List.take_length] at f2
          obtain ⟨y, hy, y1, h1, h2⟩ := each_at e1 _ v hv'
          have e3 : y = maxL x xs := by
            rw [List.getD_eq_getElem?_getD, hy] at f2
            exact f2
          subst e3
          exact ⟨y1, H, I.kept hk, h1, got.here S h2 g⟩
        · exact g.elim
  · exact g.elim
theorem dc_maxA {e : Expr} {es : List Expr} {g : DenL} {p pos : Pos} (C : Cm G X W k) (hm : X.mg "max" = none) (ha : DA G X W (e :: es) g) (hg : Gl X "max" := by rfl) (he : starEach (e :: es) X.env = (false, eval e X.env) :: starEach es X.env := by rfl) (hpl : (backTo pos (starEach es X.env)).any (·.1) = false := by rfl) :
    DE G X W (.Call (.Name "max" p) (e :: es) [] pos) (opL maxAO g) := de_callB (cr_maxA C) hg hm bt_max ha (he := he) (hpl := hpl)
end
end DL

namespace DL
open PySem PySem.Spec PyProof.Rows L2
/-! ### a list taken apart -/
def lupT (u : Tgts) : Tgt := fun d ρ => match d with
  | .lst ds => u ds ρ
  | _ => none
section
variable {G : Gm} {W : WX} {X : Cx} {k : Nat} {pos : Pos}
theorem dg_lup {es : List Expr} {n : Nat} {u : Tgts} {is : List Nat} (C : Cm G X W k) (h : DGs G X es u is) (hn : (assignEach es X.env).length = es.length := by rfl) (hst : (assignEach es X.env).findIdx? (·.1) = none := by rfl) : DG G X (.Tuple es n pos) (lupT u) is := by
  refine ⟨(pg_lst C.calm h.pgs hn hst).imp ?_⟩
  rintro v σ H Q ⟨d, ρ, α, E, R, ρ', e, q⟩
  unfold lupT at e
  split at e
  · rename_i ds
    obtain ⟨a, vs, rfl, t, r⟩ := (show ∃ a vs, v = V.ref a ∧ LstAt α H a vs ∧ RepL G.K α H ds vs from R)
    exact ⟨a, vs, rfl, t.seq, by rw [← r.len]; exact h.len _ _ _ e, _, ρ, α, E, r, ρ', e, q⟩
  · cases e
end
@[simp] theorem ap_lup (u : Tgts) (ds : List D) (ρ : Env) : lupT u (.lst ds) ρ = u ds ρ := Eq.trans rfl rfl
end DL

namespace DL
open PySem PySem.Spec PyProof.Rows L2 PySem.W
/-! ### set(xs), xs a list of ints -/
abbrev nS (w : World) : Obj := { cls := .type "set", dict := none, data := .set #[] 0 (.fresh 0 0 (!w.params.followText "set-order")) }
section
variable {P : Program} {w : World} {A : Around} {E : Value → Shared → Prop} {s : Shared}
set_option maxHeartbeats 3200000 in
theorem set_lstI {l : Addr} {xs : Array Value} (ns : List Int) {Q : Value → Shared → Prop} (hA : A.handled = none) (hL : s.heap.IsList l xs) (hI : IntsAre xs.toList ns) (few : ns.length + 1 < scanBound)
    (h : ∀ (h2 : Heap) (tk c : Nat), SetR w h2 s.heap.objs.size (fun j => decide (j ∈ ns)) c → c ≤ ns.length → (∀ b o, s.heap.get? b = some o → h2.get? b = some o) → Q (.ref s.heap.objs.size) { s with heap := h2, toks := tk }) :
    wpAny (model P w) A (call (.type "set") [.ref l]) Q E s := by
  have sz : xs.size = ns.length := by have := IntsAre.length hI; rwa [Array.length_toList] at this
  obtain ⟨c, tl, m1⟩ := PySem.F.called_set.mro; have m2 := PySem.F.called_set.made; have m3 := PySem.F.called_set.sub
  refine wpAny_call (codeAny_of_tree ?_); show wpAny _ _ (callAny (.type "set") _) _ _ _
  refine wpAny_pure ⟨Code.quiet_builtin _ (by decide +kernel), codeAny_builtin PySem.F.entry_type_call ?_⟩; rw [Around.under_plain (weight_type_call_type "set" [.ref l] []) rfl]
  have m4 := PySem.F.called_set.notType; have m5 := PySem.F.called_set.canCreate; have m6 := PySem.F.typeCall_set_1 (.ref l)
  repeat (any_goals (first | assumption | wp_step))
  refine codeAny_mono (code_set_led1 (.ref l) (E := E) (Q₁ := fun ob s₁ => ob = .ref s.heap.objs.size ∧ s₁ = { s with heap := s.heap.push (nS w) }) ⟨rfl, rfl⟩) fun r s₁ hr => ?_
  cases r with
  | error e => exact hr
  | ok fl =>
    cases fl with
    | ret ob =>
      obtain ⟨rfl, rfl⟩ := hr
      have gS : (s.heap.push (nS w)).get? s.heap.objs.size = some (nS w) := Heap.get?_push_size _ rfl
      have tS : Shared.TypeIs { s with heap := s.heap.push (nS w) } (.ref s.heap.objs.size) "set" := ⟨_, gS, rfl⟩
      have m7 := PySem.F.called_set.init.lookup; have m8 := PySem.F.called_set.init.bind (.ref s.heap.objs.size)
      repeat (any_goals (first | assumption | wp_step))
      refine codeAny_mono (codeAny_call_builtin (R := wants (fun r s₂ => r = .none ∧ ∃ h2 tk c, s₂ = { s with heap := h2, toks := tk } ∧ SetR w h2 s.heap.objs.size (fun j => decide (j ∈ ns)) c ∧ c ≤ ns.length ∧ (∀ b o, s.heap.get? b = some o → h2.get? b = some o)) E) PySem.F.called_set.init.plain PySem.F.entry_set_init (check_set_init_1 tS ?_)) fun r₂ s₂ hr₂ => ?_
      · obtain ⟨ol, hol, hcl, nl, hdl⟩ := hL; obtain ⟨ocls, odict, odata, oslots⟩ := ol
        simp only at hcl hdl; subst hcl; subst hdl
        have hol2 : (s.heap.push (nS w)).get? l = some { cls := .type "list", dict := odict, data := .seq xs nl, slots := oslots } := Heap.get?_push_of_some _ hol
        have q1 := PySem.F.sub_list_set; have q2 := PySem.F.sub_list_frozenset
        have q3 : (Value.type "list" == Value.type "dict") = false := by decide
        have hl1 : (s.heap.push (nS w)).IsList l xs := ⟨_, hol2, rfl, nl, rfl⟩
        unfold Builtin.«set.__init__» noKeywords Builtin.Frozenset.updateFrom; generalize hPI : pyIter = PI
        wp_walk
        subst hPI
        refine wpAny_pyIter_list hl1 ?_; refine wpAny_bind (wpAny_runValue ?_)
        have lt1 : l < s.heap.objs.size := Heap.lt_size hol
        have hA3 : A.in1.in1.in1.handled = none := by simp [hA]
        have neI : l ≠ (s.heap.push (nS w)).objs.size := by rw [Heap.size_push]; exact Nat.ne_of_lt (Nat.lt_succ_of_lt lt1)
        have nin : s.heap.objs.size ∉ [(s.heap.push (nS w)).objs.size, l] := by
          rw [Heap.size_push]; simp only [List.mem_cons, List.not_mem_nil, or_false, not_or]; exact ⟨Nat.ne_of_lt (Nat.lt_succ_self _), Nat.ne_of_gt lt1⟩
        have val : ∀ (i : Nat) (v : Value), xs[i]? = some v → ∃ k t, ns[i]? = some k ∧ v = .int k t := fun i v hv => by
          have hi : i < ns.length := by rw [← sz]; exact (Array.getElem?_eq_some_iff.mp hv).1
          obtain ⟨t, e⟩ := PyProof.Rows.IntsAre.int_at hI i v (by rw [Array.getElem?_toList]; exact hv)
          exact ⟨ns[i], t, List.getElem?_eq_getElem hi, by rw [e, List.getD_eq_getElem?_getD, List.getElem?_eq_getElem hi]; rfl⟩
        refine set_update_ints ((Walks.list hA3 _ l neI xs).toS) s.heap.objs.size nin ns sz few val (xs.size - 0) 0 _ (by omega) (Nat.zero_le _) ⟨⟨_, Heap.get?_push_size _ rfl, rfl, rfl⟩, (hl1.push _)⟩ ⟨0, Nat.le_refl 0, setR_new_at (Heap.get?_push_of_some _ gS)⟩ fun s' c' hm hc' hS' => ?_
        obtain ⟨h2, g2, d2, tk2, os2⟩ := s'
        have eg : g2 = s.gens := hm.gens; have ed : d2 = s.drawn := hm.drawn; have eo : os2 = s.os := hm.os
        subst eg ed eo
        show wpAny _ _ _ _ _ _; refine wpAny_pure ?_
        show wpAny _ _ (ret Value.none) _ _ _; rw [sz] at hc'
        refine wpAny_pure ⟨rfl, h2, tk2, c', rfl, hS', hc', fun b o e => ?_⟩
        have lt2 : b < s.heap.objs.size := Heap.lt_size e
        exact hm.heap b o (by rw [Heap.size_push]; simp only [List.mem_cons, List.not_mem_nil, or_false, not_or]; exact ⟨Nat.ne_of_lt lt2, Nat.ne_of_lt (Nat.lt_succ_of_lt lt2)⟩) (Heap.get?_push_of_some _ (Heap.get?_push_of_some _ e))
      · cases r₂ with
        | error e => exact hr₂
        | ok fl₂ =>
          cases fl₂ with
          | ret r =>
            obtain ⟨rfl, h2, tk, c', rfl, hS', hc', hk'⟩ := hr₂
            repeat (any_goals (first | assumption | wp_step))
            exact h _ _ _ hS' hc' hk'
          | _ => exact hr₂.elim
    | _ => exact hr.elim
end
/-! ### sorted(set(xs)), len(set(xs)), xs a list of ints -/
def insI (x : Int) : List Int → List Int
  | [] => [x]
  | y :: r => if x < y then x :: y :: r else if x = y then y :: r else y :: insI x r
def setI : List Int → List Int
  | [] => []
  | x :: r => insI x (setI r)
theorem insI_mem {x z : Int} : ∀ {l : List Int}, z ∈ insI x l ↔ z = x ∨ z ∈ l
  | [] => by simp [insI]
  | y :: r => by
    unfold insI
    split
    · simp
    · split
      · rename_i h; subst h; simp
      · rw [List.mem_cons, insI_mem, List.mem_cons]
        constructor
        · rintro (h | h | h) <;> simp [h]
        · rintro (h | h | h) <;> simp [h]
theorem setI_mem {z : Int} : ∀ {l : List Int}, z ∈ setI l ↔ z ∈ l
  | [] => Iff.rfl
  | y :: r => by
    show z ∈ insI y (setI r) ↔ _
    rw [insI_mem, setI_mem, List.mem_cons]
theorem insI_pw {x : Int} : ∀ {l : List Int}, l.Pairwise (· < ·) → (insI x l).Pairwise (· < ·)
  | [], _ => by simp [insI]
  | y :: r, h => by
    obtain ⟨h1, h2⟩ := List.pairwise_cons.mp h
    unfold insI
    split
    · rename_i hx
      refine List.pairwise_cons.mpr ⟨fun z hz => ?_, h⟩
      rcases List.mem_cons.mp hz with rfl | hz
      · exact hx
      · have := h1 z hz; omega
    · split
      · exact h
      · rename_i hx hy
        refine List.pairwise_cons.mpr ⟨fun z hz => ?_, insI_pw h2⟩
        rcases insI_mem.mp hz with rfl | hz
        · omega
        · exact h1 z hz
theorem setI_pw : ∀ (l : List Int), (setI l).Pairwise (· < ·)
  | [] => List.Pairwise.nil
  | _ :: r => insI_pw (setI_pw r)
theorem strict_uniq : ∀ {xs ys : List Int}, xs.Pairwise (· < ·) → ys.Pairwise (· < ·) → (∀ z, z ∈ xs ↔ z ∈ ys) → xs = ys
  | [], ys, _, _, h => by
    cases ys with
    | nil => rfl
    | cons y ys => exact absurd ((h y).mpr (by simp)) (by simp)
  | x :: xs, [], _, _, h => absurd ((h x).mp (by simp)) (by simp)
  | x :: xs, y :: ys, h1, h2, h => by
    obtain ⟨a1, a2⟩ := List.pairwise_cons.mp h1
    obtain ⟨b1, b2⟩ := List.pairwise_cons.mp h2
    have e : x = y := by
      rcases List.mem_cons.mp ((h x).mp (by simp)) with z | z
      · exact z
      rcases List.mem_cons.mp ((h y).mpr (by simp)) with w | w
      · exact w.symm
      have := a1 y w; have := b1 x z; omega
    subst e
    rw [strict_uniq a2 b2 fun z => ?_]
    have hz := h z
    rw [List.mem_cons, List.mem_cons] at hz
    constructor
    · intro m
      rcases hz.mp (.inr m) with q | q
      · have := a1 z m; omega
      · exact q
    · intro m
      rcases hz.mpr (.inr m) with q | q
      · have := b1 z m; omega
      · exact q
theorem setI_sorted {l : List Int} (h : l.Pairwise (· < ·)) : setI l = l := strict_uniq (setI_pw l) h fun _ => setI_mem
def sortedSetD : O1 := fun d st => ((viewL st d).bind intsOf).bind fun ns => if ns.length < 64 then some (.lst ((setI ns).map .int)) else none
def lenSetD : O1 := fun d st => ((viewL st d).bind intsOf).bind fun ns => if ns.length < 64 then some (.int (setI ns).length) else none
section
variable {G : Gm} {W : WX} {X : Cx} {k : Nat} {e : Expr} {f : Den} {p p2 q pos : Pos}
theorem de_sortedSet (C : Cm G X W k) (hg : Gl X "sorted") (hm : X.mg "sorted" = none) (hg2 : Gl X "set") (hm2 : X.mg "set" = none) (ha : DE G X W e f)
    (na : starEach [e] X.env = (false, eval e X.env) :: starEach [] X.env := by rfl) (nb : starEach [.Call (.Name "set" p2) [e] [] q] X.env = (false, eval (.Call (.Name "set" p2) [e] [] q) X.env) :: starEach [] X.env := by rfl) :
    DE G X W (.Call (.Name "sorted" p) [.Call (.Name "set" p2) [e] [] q] [] pos) (op1 sortedSetD f) := by
  refine ⟨⟨fun pins s σ H Q I hq => ?_⟩⟩
  obtain ⟨ρ, st, α, E, S, hq⟩ := hq
  refine Call_ (ld_blt I hg hm bt_sorted ?_)
  refine PyProof.Rows.callWith_builtin1 (PyProof.Rows.args_cons ?_ nb) nb rfl
  refine Call_ (ld_blt I hg2 hm2 PyProof.Rows.boot_set ?_)
  refine PyProof.Rows.callWith_type1 (PyProof.Rows.args_cons (thn (ha.pe.run pins s σ H _ I ⟨ρ, st, α, E, S, post.step (rp := Rep G.K) hq⟩) fun v s1 ⟨x, H1, I1, r1, d, s2, α1, l, S1, R, w⟩ => PyProof.Rows.args_nil ?_) na) na rfl
  have g := got.of w
  unfold sortedSetD at g
  cases hv : viewL s2 d with
  | none => rw [hv] at g; exact g.elim
  | some xs =>
    rw [hv] at g
    cases hi : intsOf xs with
    | none => rw [show (some xs).bind intsOf = intsOf xs from rfl, hi] at g; exact g.elim
    | some ns =>
      rw [show (some xs).bind intsOf = intsOf xs from rfl, hi] at g
      have g : got G α1 H1 s2 (if ns.length < 64 then some (.lst ((setI ns).map .int)) else none) Q := g
      split at g
      · rename_i hl
        obtain ⟨a, ws, rfl, t, ru⟩ := viewL_ok S1 R hv
        cases intsOf_eq hi
        cases RepL.of_ints ru
        obtain rfl : v = Value.ref a := r1
        obtain ⟨its, rv, pl, hz⟩ := I1.list (.of t)
        refine set_lstI ns (I1.ok.hd C.calm) pl.isList (by simpa using rv.ints) (by unfold scanBound; omega) fun h2 tk c R2 hc2 hk => ?_
        have I2 : Inv X pins σ H1 { s1 with heap := h2, toks := tk } := I1.kept hk
        refine PyProof.Rows.args_nil ?_
        refine sorted_set R2 (I2.ok.hd C.calm) (by omega) fun s' p' out cc ms k2 g2 o2 hp hgt hi2 hs hm3 hl2 => ?_
        have e3 : ms = setI ns := strict_uniq hs (setI_pw ns) fun z => by rw [hm3, setI_mem]; simp
        subst e3
        have hlen : ((setI ns).map V.int).length ≤ sizeLine := by rw [List.length_map, hl2, sizeLine_eq]; omega
        have hn : H1 p' = none := I2.hok.fresh hp
        have J : Inv X pins σ (upd H1 p' (.lst ((setI ns).map V.int))) { ({ s1 with heap := h2, toks := tk } : Shared) with heap := s'.heap, gens := s'.gens, drawn := s'.drawn, toks := s'.toks } :=
          I2.call (ch := []) (Un.laid k2 hp hn) (I2.hok.laid k2 hp ⟨hlen, out.toList, cc, vals_of_ints hi2, hgt⟩) (by rw [g2]; exact I2.bare) (fun _ z => nomatch z)
        have e4 : s' = { ({ s1 with heap := h2, toks := tk } : Shared) with heap := s'.heap, gens := s'.gens, drawn := s'.drawn, toks := s'.toks } := by
          cases s'; cases s1; cases o2; rfl
        rw [e4]
        exact ⟨.ref p', _, J, rfl, got.lst S1 (RepL.ints _) g _ hn⟩
      · exact g.elim
theorem de_lenSet (C : Cm G X W k) (hg : Gl X "len") (hm : X.mg "len" = none) (hg2 : Gl X "set") (hm2 : X.mg "set" = none) (ha : DE G X W e f)
    (na : starEach [e] X.env = (false, eval e X.env) :: starEach [] X.env := by rfl) (nb : starEach [.Call (.Name "set" p2) [e] [] q] X.env = (false, eval (.Call (.Name "set" p2) [e] [] q) X.env) :: starEach [] X.env := by rfl) :
    DE G X W (.Call (.Name "len" p) [.Call (.Name "set" p2) [e] [] q] [] pos) (op1 lenSetD f) := by
  refine ⟨⟨fun pins s σ H Q I hq => ?_⟩⟩
  obtain ⟨ρ, st, α, E, S, hq⟩ := hq
  refine Call_ (ld_blt I hg hm bt_len ?_)
  refine PyProof.Rows.callWith_builtin1 (PyProof.Rows.args_cons ?_ nb) nb rfl
  refine Call_ (ld_blt I hg2 hm2 PyProof.Rows.boot_set ?_)
  refine PyProof.Rows.callWith_type1 (PyProof.Rows.args_cons (thn (ha.pe.run pins s σ H _ I ⟨ρ, st, α, E, S, post.step (rp := Rep G.K) hq⟩) fun v s1 ⟨x, H1, I1, r1, d, s2, α1, l, S1, R, w⟩ => PyProof.Rows.args_nil ?_) na) na rfl
  have g := got.of w
  unfold lenSetD at g
  cases hv : viewL s2 d with
  | none => rw [hv] at g; exact g.elim
  | some xs =>
    rw [hv] at g
    cases hi : intsOf xs with
    | none => rw [show (some xs).bind intsOf = intsOf xs from rfl, hi] at g; exact g.elim
    | some ns =>
      rw [show (some xs).bind intsOf = intsOf xs from rfl, hi] at g
      have g : got G α1 H1 s2 (if ns.length < 64 then some (.int (setI ns).length) else none) Q := g
      split at g
      · rename_i hl
        obtain ⟨a, ws, rfl, t, ru⟩ := viewL_ok S1 R hv
        cases intsOf_eq hi
        cases RepL.of_ints ru
        obtain rfl : v = Value.ref a := r1
        obtain ⟨its, rv, pl, hz⟩ := I1.list (.of t)
        refine set_lstI ns (I1.ok.hd C.calm) pl.isList (by simpa using rv.ints) (by unfold scanBound; omega) fun h2 tk c R2 hc2 hk => ?_
        have I2 : Inv X pins σ H1 { s1 with heap := h2, toks := tk } := I1.kept hk
        refine PyProof.Rows.args_nil ?_
        obtain ⟨o, es, ep, t2, ho, hex, hd, ge, nd, hm3, hb, hf, hn, hr, hl2⟩ := R2
        have e5 : es.size = (setI ns).length := by
          have : (es.toList.map keyOf).Perm (setI ns) := (List.perm_ext_iff_of_nodup nd ((setI_pw ns).imp fun h => by omega)).mpr fun z => by
            rw [← hm3, setI_mem]
            simp
          have := this.length_eq
          simpa using this
        refine call_len_set ho hex hd hf (by omega) ⟨.int (setI ns).length, H1, I2.tok _, ⟨_, by rw [e5]⟩, got.here (d := .int _) S1 rfl g⟩
      · exact g.elim
end
@[simp] theorem sset_ints {ns : List Int} {st : Store} (h : ns.length < 64) : sortedSetD (.lst (ns.map .int)) st = some (.lst ((setI ns).map .int)) := by
  show ((intsOf (ns.map .int)).bind _) = _
  rw [ints_of]
  exact if_pos h
@[simp] theorem lset_ints {ns : List Int} {st : Store} (h : ns.length < 64) : lenSetD (.lst (ns.map .int)) st = some (.int (setI ns).length) := by
  show ((intsOf (ns.map .int)).bind _) = _
  rw [ints_of]
  exact if_pos h
end DL

namespace DL
open PySem PySem.Spec PyProof.Rows L2 PySem.W
/-! ### set(xs), xs a tuple of tuples of ints -/
section
variable {P : Program} {w : World} {A : Around} {E : Value → Shared → Prop} {s : Shared}
set_option maxHeartbeats 3200000 in
theorem set_tupT {l : Addr} {items : Array Value} (ks : List (Addr × List Int)) {Q : Value → Shared → Prop} (hh : A.handled = none) (hl : s.heap.IsTuple l items) (hit : items.toList = ks.map fun p => Value.ref p.1)
    (hk : ∀ p ∈ ks, IsT P w s.heap p.2 p.1) (hfew : ks.length < 64) (hu : A.units + 3 < cLine)
    (h : ∀ (h' : Heap) (tk : Nat) L es ep t, SetTR P w h' s.heap.objs.size L es ep t → Got ks ks.length L → (∀ b o, s.heap.get? b = some o → h'.get? b = some o) → Q (.ref s.heap.objs.size) { s with heap := h', toks := tk }) :
    wpAny (model P w) A (call (.type "set") [.ref l]) Q E s := by
  have hisz : items.size = ks.length := by
    have q := congrArg List.length hit
    rw [Array.length_toList, List.length_map] at q
    exact q
  obtain ⟨c, tl, hmro⟩ := PySem.F.called_set.mro
  have hmade := PySem.F.called_set.made
  have hsub := PySem.F.called_set.sub
  refine wpAny_call (codeAny_of_tree ?_)
  show wpAny _ _ (callAny (.type "set") _) _ _ _
  refine wpAny_pure ⟨Code.quiet_builtin _ (by decide +kernel), codeAny_builtin PySem.F.entry_type_call ?_⟩
  rw [Around.under_plain (weight_type_call_type "set" [.ref l] []) rfl]
  have h1 := PySem.F.called_set.notType
  have h2 := PySem.F.called_set.canCreate
  have hct := PySem.F.typeCall_set_1 (.ref l)
  repeat (any_goals (first | assumption | wp_step))
  refine codeAny_mono (code_set_led1 (.ref l) (E := E) (Q₁ := fun obj s₁ => obj = .ref s.heap.objs.size ∧ s₁ = { s with heap := s.heap.push (nS w) }) ⟨rfl, rfl⟩) fun r s₁ hr => ?_
  cases r with
  | error e => exact hr
  | ok fl =>
    cases fl with
    | ret obj =>
      obtain ⟨rfl, rfl⟩ := hr
      have hS : (s.heap.push (nS w)).get? s.heap.objs.size = some (nS w) := Heap.get?_push_size _ rfl
      have hT : Shared.TypeIs { s with heap := s.heap.push (nS w) } (.ref s.heap.objs.size) "set" := ⟨_, hS, rfl⟩
      have hli := PySem.F.called_set.init.lookup
      have hbi := PySem.F.called_set.init.bind (.ref s.heap.objs.size)
      repeat (any_goals (first | assumption | wp_step))
      refine codeAny_mono (codeAny_call_builtin (R := wants (fun r s₂ => r = .none ∧ ∃ h' tk L es ep t, s₂ = { s with heap := h', toks := tk } ∧ SetTR P w h' s.heap.objs.size L es ep t ∧ Got ks ks.length L ∧
          (∀ b o, s.heap.get? b = some o → h'.get? b = some o)) E) PySem.F.called_set.init.plain PySem.F.entry_set_init (check_set_init_1 hT ?_)) fun r₂ s₂ hr₂ => ?_
      · obtain ⟨ol, hol, hcl, nl, hdl⟩ := hl
        obtain ⟨ocls, odict, odata, oslots⟩ := ol
        simp only at hcl hdl
        subst hcl; subst hdl
        have hol' : (s.heap.push (nS w)).get? l = some { cls := .type "tuple", dict := odict, data := .seq items nl, slots := oslots } := Heap.get?_push_of_some _ hol
        have hsls := PySem.F.sub_tuple_set
        have hslf := PySem.F.sub_tuple_frozenset
        have hne : (Value.type "tuple" == Value.type "dict") = false := by decide
        have hl1 : (s.heap.push (nS w)).IsTuple l items := ⟨_, hol', rfl, nl, rfl⟩
        unfold Builtin.«set.__init__» noKeywords Builtin.Frozenset.updateFrom
        generalize hPI : pyIter = PI
        wp_walk
        subst hPI
        refine wpAny_pyIter_tuple hl1 ?_
        refine wpAny_bind (wpAny_runValue ?_)
        have hlS : l < s.heap.objs.size := Heap.lt_size hol
        have hh3 : A.in1.in1.in1.handled = none := by simp [hh]
        have hneI : l ≠ (s.heap.push (nS w)).objs.size := by
          rw [Heap.size_push]; exact Nat.ne_of_lt (Nat.lt_succ_of_lt hlS)
        have hSf : s.heap.objs.size ∉ [(s.heap.push (nS w)).objs.size, l] := by
          rw [Heap.size_push]; simp only [List.mem_cons, List.mem_singleton, List.not_mem_nil, or_false, not_or]
          exact ⟨Nat.ne_of_lt (Nat.lt_succ_self _), Nat.ne_of_gt hlS⟩
        have hval : ∀ (i : Nat) (v : Value), items[i]? = some v → ∃ p, ks[i]? = some p ∧ v = .ref p.1 := fun i v hv => by
          have q : items.toList[i]? = some v := by rw [Array.getElem?_toList]; exact hv
          rw [hit, List.getElem?_map] at q
          cases hq : ks[i]? with
          | none => rw [hq] at q; cases q
          | some p =>
            rw [hq] at q
            exact ⟨p, rfl, (Option.some.inj q).symm⟩
        have none_of : ∀ b, s.heap.objs.size ≤ b → s.heap.get? b = none := fun b hb => by
          cases q : s.heap.get? b with
          | none => rfl
          | some o => exact absurd (Nat.lt_of_lt_of_le (Heap.lt_size q) hb) (Nat.lt_irrefl _)
        refine set_update_tups ((Walks.tuple hh3 _ l hneI items).toS) s.heap.objs.size
          hSf ks hisz hfew hval s.heap hk (none_of _ (Nat.le_refl _)) (fun b hb => none_of b (by
            rw [List.mem_singleton.mp hb, Heap.size_push]
            exact Nat.le_succ _)) hu (items.size - 0) 0 _ (by omega) (Nat.zero_le _)
          ⟨⟨_, Heap.get?_push_size _ rfl, rfl, rfl⟩, (hl1.push _)⟩ (fun b o e => Heap.get?_push_of_some _ (Heap.get?_push_of_some _ e)) ?hS0 ?hR
        case hS0 =>
          have hget : ((s.heap.push (nS w)).push { cls := .type "tuple_iterator", data := .fields #[.ref l, .int 0 0] }).get? s.heap.objs.size = some (nS w) := Heap.get?_push_of_some _ hS
          exact ⟨[], #[], 0, _, setTR_fresh hget, Got.zero ks⟩
        case hR =>
          intro s' L es ep t hm hS' g' hkp
          obtain ⟨h', g2, d', tk', os'⟩ := s'
          have eg : g2 = s.gens := hm.gens
          have ed : d' = s.drawn := hm.drawn
          have eo : os' = s.os := hm.os
          subst eg; subst ed; subst eo
          show wpAny _ _ _ _ _ _
          refine wpAny_pure ?_
          show wpAny _ _ (ret Value.none) _ _ _
          rw [hisz] at g'
          exact wpAny_pure ⟨rfl, h', tk', L, es, ep, t, rfl, hS', g', hkp⟩
      · cases r₂ with
        | error e => exact hr₂
        | ok fl₂ =>
          cases fl₂ with
          | ret r =>
            obtain ⟨rfl, h', tk, L, es, ep, t, rfl, hS', g', hk'⟩ := hr₂
            repeat (any_goals (first | assumption | wp_step))
            exact h _ _ _ _ _ _ hS' g' hk'
          | _ => exact hr₂.elim
    | _ => exact hr.elim
end
/-! ### sorted(set(xs)), len(set(xs)), xs a tuple of pairs of ints -/
abbrev Pr : Type := Int × Int
def prD (c : Pr) : D := .tup [.int c.1, .int c.2]
def prOf : D → Option Pr
  | .tup [.int a, .int b] => some (a, b)
  | _ => none
def prsOf : List D → Option (List Pr)
  | [] => some []
  | x :: xs => (prOf x).bind fun p => (prsOf xs).map (p :: ·)
theorem prOf_eq {d : D} {p : Pr} (h : prOf d = some p) : d = prD p := by
  unfold prOf at h
  split at h
  · cases h; rfl
  · cases h
theorem prsOf_eq : ∀ {xs : List D} {ps : List Pr}, prsOf xs = some ps → xs = ps.map prD
  | [], ps, h => by cases (show some [] = some ps from h); rfl
  | x :: xs, ps, h => by
    have h : ((prOf x).bind fun p => (prsOf xs).map (p :: ·)) = some ps := h
    cases h1 : prOf x with
    | none => rw [h1] at h; cases h
    | some p =>
      rw [h1] at h
      have h : (prsOf xs).map (p :: ·) = some ps := h
      cases h2 : prsOf xs with
      | none => rw [h2] at h; cases h
      | some qs =>
        rw [h2] at h
        cases (show some (p :: qs) = some ps from h)
        rw [prOf_eq h1, prsOf_eq h2]
        rfl
theorem prsOf_map : ∀ (ps : List Pr), prsOf (ps.map prD) = some ps
  | [] => rfl
  | p :: ps => by
    show ((prOf (prD p)).bind fun q => (prsOf (ps.map prD)).map (q :: ·)) = _
    rw [prsOf_map ps]
    rfl
def plt (a b : Pr) : Bool := decide (a.1 < b.1) || (decide (a.1 = b.1) && decide (a.2 < b.2))
theorem plt_as (a b : Pr) (h : plt a b = true) : plt b a = false := by
  unfold plt at *
  simp only [Bool.or_eq_true, Bool.and_eq_true, decide_eq_true_eq, Bool.or_eq_false_iff, Bool.and_eq_false_iff, decide_eq_false_iff_not] at *
  omega
theorem plt_tot (a b : Pr) (h : ¬ plt a b = true) (n : a ≠ b) : plt b a = true := by
  obtain ⟨a1, a2⟩ := a
  obtain ⟨b1, b2⟩ := b
  unfold plt at *
  simp only [Bool.or_eq_true, Bool.and_eq_true, decide_eq_true_eq, ne_eq, Prod.mk.injEq] at *
  omega
theorem plt_tr (a b c : Pr) (h : plt a b = true) (k : plt b c = true) : plt a c = true := by
  unfold plt at *
  simp only [Bool.or_eq_true, Bool.and_eq_true, decide_eq_true_eq] at *
  omega
def insP (x : Pr) : List Pr → List Pr
  | [] => [x]
  | y :: r => if plt x y = true then x :: y :: r else if x = y then y :: r else y :: insP x r
def setP : List Pr → List Pr
  | [] => []
  | x :: r => insP x (setP r)
theorem insP_mem {x z : Pr} : ∀ {l : List Pr}, z ∈ insP x l ↔ z = x ∨ z ∈ l
  | [] => by simp [insP]
  | y :: r => by
    unfold insP
    split
    · simp
    · split
      · rename_i h; subst h; simp
      · rw [List.mem_cons, insP_mem, List.mem_cons]
        constructor
        · rintro (h | h | h) <;> simp [h]
        · rintro (h | h | h) <;> simp [h]
theorem setP_mem {z : Pr} : ∀ {l : List Pr}, z ∈ setP l ↔ z ∈ l
  | [] => Iff.rfl
  | y :: r => by
    show z ∈ insP y (setP r) ↔ _
    rw [insP_mem, setP_mem, List.mem_cons]
abbrev UpP (l : List Pr) : Prop := l.Pairwise fun a b => plt a b = true
theorem insP_pw {x : Pr} : ∀ {l : List Pr}, UpP l → UpP (insP x l)
  | [], _ => by simp [insP]
  | y :: r, h => by
    obtain ⟨h1, h2⟩ := List.pairwise_cons.mp h
    unfold insP
    split
    · rename_i hx
      refine List.pairwise_cons.mpr ⟨fun z hz => ?_, h⟩
      rcases List.mem_cons.mp hz with rfl | hz
      · exact hx
      · exact plt_tr _ _ _ hx (h1 z hz)
    · split
      · exact h
      · rename_i hx hy
        refine List.pairwise_cons.mpr ⟨fun z hz => ?_, insP_pw h2⟩
        rcases insP_mem.mp hz with rfl | hz
        · exact plt_tot _ _ hx hy
        · exact h1 z hz
theorem setP_pw : ∀ (l : List Pr), UpP (setP l)
  | [] => List.Pairwise.nil
  | _ :: r => insP_pw (setP_pw r)
theorem UpP.nodup {l : List Pr} (h : UpP l) : l.Nodup := h.imp fun {a b} h e => by
  subst e
  have := plt_as _ _ h
  rw [h] at this
  cases this
theorem upP_uniq {xs ys : List Pr} (h1 : UpP xs) (h2 : UpP ys) (h : ∀ z, z ∈ xs ↔ z ∈ ys) : xs = ys :=
  List.Perm.eq_of_pairwise (le := fun a b => plt a b = true) (fun a b _ _ p q => by rw [plt_as _ _ p] at q; cases q) h1 h2 ((List.perm_ext_iff_of_nodup h1.nodup h2.nodup).mpr h)
theorem setP_sorted {l : List Pr} (h : UpP l) : setP l = l := upP_uniq (setP_pw l) h fun _ => setP_mem
def bdP (p : Pr) : Bool := (decide (0 ≤ p.1) && decide (p.1 < 64)) && (decide (0 ≤ p.2) && decide (p.2 < 64))
def sortedSetT : O1 := fun d st => match d with
  | .tup xs => (prsOf xs).bind fun ps => if ps.length < 64 ∧ ps.all bdP = true then some (.lst ((setP ps).map prD)) else none
  | _ => none
def lenSetT : O1 := fun d st => match d with
  | .tup xs => (prsOf xs).bind fun ps => if ps.length < 64 then some (.int (setP ps).length) else none
  | _ => none
def prL (p : Pr) : List Int := [p.1, p.2]
theorem prL_inj {p q : Pr} (h : prL p = prL q) : p = q := by
  unfold prL at h
  simp only [List.cons.injEq, and_true] at h
  exact Prod.ext h.1 h.2
section
variable {G : Gm} {W : WX} {X : Cx} {k : Nat} {e : Expr} {f : Den} {p p2 q pos : Pos}
/-- a row of pairs, its addresses -/
theorem prs_rep {α : List Addr} {H : Hp} : ∀ {ps : List Pr} {vs : List V}, RepL G.K α H (ps.map prD) vs → ∃ ks : List (Addr × List Int), vs = ks.map (fun r => V.ref r.1) ∧ ks.map (·.2) = ps.map prL ∧ (∀ r ∈ ks, SqT G.K H r.1 (r.2.map V.int)) ∧ ∀ r ∈ ks, ∃ p, r.2 = prL p ∧ Rep G.K α H (prD p) (V.ref r.1)
  | [], vs, h => by cases (show vs = [] from h); exact ⟨[], rfl, rfl, by simp, by simp⟩
  | p :: ps, vs, h => by
    obtain ⟨v, r, rfl, h1, h2⟩ := (show ∃ v r, _ ∧ Rep G.K α H (prD p) v ∧ RepL G.K α H (ps.map prD) r from h)
    obtain ⟨a, ws, rfl, t, r1⟩ := (show ∃ a ws, _ ∧ TupAt G.K α H a ws ∧ RepL G.K α H [.int p.1, .int p.2] ws from h1)
    obtain ⟨u1, q1, rfl, rfl, h3⟩ := (show ∃ v r, _ ∧ v = V.int p.1 ∧ RepL G.K α H [.int p.2] r from r1)
    obtain ⟨u2, q2, rfl, rfl, h4⟩ := (show ∃ v r, _ ∧ v = V.int p.2 ∧ RepL G.K α H [] r from h3)
    cases (show q2 = [] from h4)
    obtain ⟨ks, rfl, e2, h5, h6⟩ := prs_rep h2
    refine ⟨(a, prL p) :: ks, rfl, by rw [List.map_cons, List.map_cons, e2], fun r hr => ?_, fun r hr => ?_⟩
    · rcases List.mem_cons.mp hr with rfl | hr
      · exact t.seq
      · exact h5 r hr
    · rcases List.mem_cons.mp hr with rfl | hr
      · exact ⟨p, rfl, h1⟩
      · exact h6 r hr
theorem prs_back {α : List Addr} {H : Hp} {ks : List (Addr × List Int)} (h : ∀ r ∈ ks, ∃ p, r.2 = prL p ∧ Rep G.K α H (prD p) (V.ref r.1)) : ∀ {L : List (Addr × List Int)} {qs : List Pr}, (∀ r ∈ L, r ∈ ks) → L.map (·.2) = qs.map prL → RepL G.K α H (qs.map prD) (L.map fun r => V.ref r.1)
  | [], [], _, _ => rfl
  | [], _ :: _, _, e => by cases e
  | _ :: _, [], _, e => by cases e
  | r :: L, q :: qs, m, e => by
    simp only [List.map_cons, List.cons.injEq] at e
    obtain ⟨p, e1, hr⟩ := h r (m r (by simp))
    have : p = q := prL_inj (e1.symm.trans e.1)
    subst this
    exact ⟨_, _, rfl, hr, prs_back h (fun r hr => m r (by simp [hr])) e.2⟩
theorem got_mem {ks L : List (Addr × List Int)} {ps : List Pr} (g : Got ks ks.length L) (e : ks.map (·.2) = ps.map prL) : (∀ r ∈ L, ∃ p ∈ ps, r.2 = prL p) ∧ ∀ p ∈ ps, prL p ∈ L.map (·.2) := by
  refine ⟨fun r hr => ?_, fun p hp => ?_⟩
  · have h1 : r ∈ ks := List.mem_of_mem_take (g.sub r hr)
    have h2 : r.2 ∈ ps.map prL := by rw [← e]; exact List.mem_map.mpr ⟨r, h1, rfl⟩
    obtain ⟨p, hp, e3⟩ := List.mem_map.mp h2
    exact ⟨p, hp, e3.symm⟩
  · have h2 : prL p ∈ ks.map (·.2) := by rw [e]; exact List.mem_map.mpr ⟨p, hp, rfl⟩
    obtain ⟨r, hr, e3⟩ := List.mem_map.mp h2
    rw [← e3]
    exact g.all r (by rw [List.take_length]; exact hr)
/-- the rows of a set, as pairs -/
theorem rows_prs {L : List (Addr × List Int)} {ps : List Pr} (h : ∀ r ∈ L, ∃ p ∈ ps, r.2 = prL p) : ∃ qs : List Pr, L.map (·.2) = qs.map prL ∧ ∀ q ∈ qs, q ∈ ps := by
  induction L with
  | nil => exact ⟨[], rfl, by simp⟩
  | cons r L ih =>
    obtain ⟨p, hp, e⟩ := h r (by simp)
    obtain ⟨qs, e2, h2⟩ := ih fun r hr => h r (by simp [hr])
    refine ⟨p :: qs, by rw [List.map_cons, List.map_cons, e, e2], fun q hq => ?_⟩
    rcases List.mem_cons.mp hq with rfl | hq
    · exact hp
    · exact h2 q hq
theorem rowsT_len {L : List (Addr × List Int)} {ps : List Pr} (nd : (L.map (·.2)).Nodup) (m : (∀ r ∈ L, ∃ p ∈ ps, r.2 = prL p) ∧ ∀ p ∈ ps, prL p ∈ L.map (·.2)) : ∃ qs : List Pr, L.map (·.2) = qs.map prL ∧ qs.Nodup ∧ ∀ z, z ∈ qs ↔ z ∈ ps := by
  obtain ⟨qs, e, h⟩ := rows_prs m.1
  refine ⟨qs, e, nodup_of_map (f := prL) (by rw [← e]; exact nd), fun z => ⟨h z, fun hz => ?_⟩⟩
  have := m.2 z hz
  rw [e] at this
  obtain ⟨y, hy, e2⟩ := List.mem_map.mp this
  rw [← prL_inj e2]
  exact hy
theorem de_lenSetT (C : Cm G X W k) (hg : Gl X "len") (hm : X.mg "len" = none) (hg2 : Gl X "set") (hm2 : X.mg "set" = none) (ha : DE G X W e f)
    (na : starEach [e] X.env = (false, eval e X.env) :: starEach [] X.env := by rfl) (nb : starEach [.Call (.Name "set" p2) [e] [] q] X.env = (false, eval (.Call (.Name "set" p2) [e] [] q) X.env) :: starEach [] X.env := by rfl) :
    DE G X W (.Call (.Name "len" p) [.Call (.Name "set" p2) [e] [] q] [] pos) (op1 lenSetT f) := by
  refine ⟨⟨fun pins s σ H Q I hq => ?_⟩⟩
  obtain ⟨ρ, st, α, E, S, hq⟩ := hq
  refine Call_ (ld_blt I hg hm bt_len ?_)
  refine PyProof.Rows.callWith_builtin1 (PyProof.Rows.args_cons ?_ nb) nb rfl
  refine Call_ (ld_blt I hg2 hm2 PyProof.Rows.boot_set ?_)
  refine PyProof.Rows.callWith_type1 (PyProof.Rows.args_cons (thn (ha.pe.run pins s σ H _ I ⟨ρ, st, α, E, S, post.step (rp := Rep G.K) hq⟩) fun v s1 ⟨x, H1, I1, r1, d, s2, α1, l, S1, R, w⟩ => PyProof.Rows.args_nil ?_) na) na rfl
  have g := got.of w
  unfold lenSetT at g
  split at g
  · rename_i xs
    cases hi : prsOf xs with
    | none => rw [hi] at g; exact g.elim
    | some ps =>
      rw [hi] at g
      have g : got G α1 H1 s2 (if ps.length < 64 then some (.int (setP ps).length) else none) Q := g
      split at g
      · rename_i hl
        cases prsOf_eq hi
        obtain ⟨a, ws, rfl, t, ru⟩ := (show ∃ a vs, _ ∧ TupAt G.K α1 H1 a vs ∧ RepL G.K α1 H1 (ps.map prD) vs from R)
        obtain ⟨ks, rfl, e2, h5, h6⟩ := prs_rep ru
        obtain rfl : v = Value.ref a := r1
        have hlen : ks.length = ps.length := by
          have := congrArg List.length e2
          simpa using this
        have tq := t.seq
        rw [← C.K] at tq h5
        obtain ⟨its, rv, pl, hz⟩ := I1.tuple tq
        have hit : its.toArray.toList = ks.map fun r => Value.ref r.1 := by simpa using refs_of_vals rv
        have hu := C.room.units
        refine set_tupT (P := X.prog) (w := X.w) ks (I1.ok.hd C.calm) (by obtain ⟨o, ho, hc, n, hd⟩ := pl; exact ⟨o, ho, hc, n, hd⟩) hit (fun r hr => I1.isT (h5 r hr)) (by omega) (by omega) fun h2 tk L es ep t2 R2 g2 hk => ?_
        have I2 : Inv X pins σ H1 { s1 with heap := h2, toks := tk } := I1.kept hk
        refine PyProof.Rows.args_nil ?_
        obtain ⟨qs, e3, nd, hm3⟩ := rowsT_len R2.nd (got_mem g2 e2)
        have e5 : es.size = (setP ps).length := by
          have h1 : (qs).Perm (setP ps) := (List.perm_ext_iff_of_nodup nd (setP_pw ps).nodup).mpr fun z => by rw [hm3, setP_mem]
          have h3 := congrArg List.length e3
          rw [List.length_map, List.length_map] at h3
          rw [SetTR.size (s := { s1 with heap := _, toks := tk }) R2, h3, h1.length_eq]
        obtain ⟨o, ho, hex, hd⟩ := R2.ob
        have hfew := R2.few
        have hsz := SetTR.size (s := { s1 with heap := h2, toks := tk }) R2
        refine call_len_set ho hex hd (SetTR.fits (s := { s1 with heap := h2, toks := tk }) R2) (by omega) ⟨.int (setP ps).length, H1, I2.tok _, ⟨_, by rw [e5]⟩, got.here (d := .int _) S1 rfl g⟩
      · exact g.elim
  · exact g.elim
theorem de_sortedSetT (C : Cm G X W k) (hg : Gl X "sorted") (hm : X.mg "sorted" = none) (hg2 : Gl X "set") (hm2 : X.mg "set" = none) (ha : DE G X W e f)
    (na : starEach [e] X.env = (false, eval e X.env) :: starEach [] X.env := by rfl) (nb : starEach [.Call (.Name "set" p2) [e] [] q] X.env = (false, eval (.Call (.Name "set" p2) [e] [] q) X.env) :: starEach [] X.env := by rfl) :
    DE G X W (.Call (.Name "sorted" p) [.Call (.Name "set" p2) [e] [] q] [] pos) (op1 sortedSetT f) := by
  refine ⟨⟨fun pins s σ H Q I hq => ?_⟩⟩
  obtain ⟨ρ, st, α, E, S, hq⟩ := hq
  refine Call_ (ld_blt I hg hm bt_sorted ?_)
  refine PyProof.Rows.callWith_builtin1 (PyProof.Rows.args_cons ?_ nb) nb rfl
  refine Call_ (ld_blt I hg2 hm2 PyProof.Rows.boot_set ?_)
  refine PyProof.Rows.callWith_type1 (PyProof.Rows.args_cons (thn (ha.pe.run pins s σ H _ I ⟨ρ, st, α, E, S, post.step (rp := Rep G.K) hq⟩) fun v s1 ⟨x, H1, I1, r1, d, s2, α1, l, S1, R, w⟩ => PyProof.Rows.args_nil ?_) na) na rfl
  have g := got.of w
  unfold sortedSetT at g
  split at g
  · rename_i xs
    cases hi : prsOf xs with
    | none => rw [hi] at g; exact g.elim
    | some ps =>
      rw [hi] at g
      have g : got G α1 H1 s2 (if ps.length < 64 ∧ ps.all bdP = true then some (.lst ((setP ps).map prD)) else none) Q := g
      split at g
      · rename_i hl
        obtain ⟨hl, hbd⟩ := hl
        cases prsOf_eq hi
        obtain ⟨a, ws, rfl, t, ru⟩ := (show ∃ a vs, _ ∧ TupAt G.K α1 H1 a vs ∧ RepL G.K α1 H1 (ps.map prD) vs from R)
        obtain ⟨ks, rfl, e2, h5, h6⟩ := prs_rep ru
        obtain rfl : v = Value.ref a := r1
        have hlen : ks.length = ps.length := by
          have := congrArg List.length e2
          simpa using this
        have tq := t.seq
        rw [← C.K] at tq
        have h5' := h5
        rw [← C.K] at h5'
        obtain ⟨its, rv, pl, hz⟩ := I1.tuple tq
        have hit : its.toArray.toList = ks.map fun r => Value.ref r.1 := by simpa using refs_of_vals rv
        have hu := C.room.units
        refine set_tupT (P := X.prog) (w := X.w) ks (I1.ok.hd C.calm) (by obtain ⟨o, ho, hc, n, hd⟩ := pl; exact ⟨o, ho, hc, n, hd⟩) hit (fun r hr => I1.isT (h5' r hr)) (by omega) (by omega) fun h2 tk L es ep t2 R2 g2 hk => ?_
        have I2 : Inv X pins σ H1 { s1 with heap := h2, toks := tk } := I1.kept hk
        refine PyProof.Rows.args_nil ?_
        have gm := got_mem g2 e2
        have hB : ∀ r ∈ L, r.2.length = 2 ∧ TS.Bd 64 r.2 := fun r hr => by
          obtain ⟨p, hp, e4⟩ := gm.1 r hr
          have hb := List.all_eq_true.mp hbd p hp
          unfold bdP at hb
          simp only [Bool.and_eq_true, decide_eq_true_eq] at hb
          rw [e4]
          refine ⟨rfl, fun i hi => ?_⟩
          simp only [prL, List.mem_cons, List.not_mem_nil, or_false] at hi
          rcases hi with rfl | rfl
          · exact hb.1
          · exact hb.2
        refine sorted_setT (s := { s1 with heap := h2, toks := tk }) R2 (I2.ok.hd C.calm) (d := 2) (B := 64) (by omega) hB fun s' p' out cc L' k2 g3 o2 hp hgt hi2 pm pw => ?_
        have nd' : (L'.map (·.2)).Nodup := (pm.map (·.2)).nodup_iff.mpr R2.nd
        have gm' : (∀ r ∈ L', ∃ p ∈ ps, r.2 = prL p) ∧ ∀ p ∈ ps, prL p ∈ L'.map (·.2) := ⟨fun r hr => gm.1 r (pm.mem_iff.mp hr), fun p hp => (pm.map (·.2)).mem_iff.mpr (gm.2 p hp)⟩
        obtain ⟨qs, e3, nd, hm3⟩ := rowsT_len nd' gm'
        have hup : UpP qs := by
          have h1 : qs.Pairwise fun a b => TS.code 64 (prL a) ≤ TS.code 64 (prL b) := by
            have := (List.pairwise_map (f := fun r : Addr × List Int => r.2) (R := fun a b => TS.code 64 a ≤ TS.code 64 b)).mpr pw
            rw [e3] at this
            exact (List.pairwise_map (f := prL) (R := fun a b => TS.code 64 a ≤ TS.code 64 b)).mp this
          refine List.Pairwise.imp_of_mem (fun {a b} ha hb hab => ?_) (h1.and nd)
          have ba := List.all_eq_true.mp hbd a ((hm3 a).mp ha)
          have bb := List.all_eq_true.mp hbd b ((hm3 b).mp hb)
          unfold bdP at ba bb
          simp only [Bool.and_eq_true, decide_eq_true_eq] at ba bb
          rcases pair_lt hab.1 (fun z => hab.2 (prL_inj z)) ba.1 ba.2 bb.1 bb.2 with z | z
          · unfold plt; simp [z]
          · unfold plt; simp [z]
        have e6 : qs = setP ps := upP_uniq hup (setP_pw ps) fun z => by rw [hm3, setP_mem]
        subst e6
        have hll : L'.length = (setP ps).length := by
          have := congrArg List.length e3
          simpa using this
        have hfew : (setP ps).length < 64 := by rw [← hll, pm.length_eq]; exact R2.few
        have hlen' : (L'.map fun r => V.ref r.1).length ≤ sizeLine := by rw [List.length_map, sizeLine_eq]; omega
        have hn : H1 p' = none := I2.hok.fresh hp
        have hv : Vals (L'.map fun r => V.ref r.1) out.toList := by rw [hi2]; exact vals_of_refs L'
        have J : Inv X pins σ (upd H1 p' (.lst (L'.map fun r => V.ref r.1))) { ({ s1 with heap := h2, toks := tk } : Shared) with heap := s'.heap, gens := s'.gens, drawn := s'.drawn, toks := s'.toks } :=
          I2.call (ch := []) (Un.laid k2 hp hn) (I2.hok.laid k2 hp ⟨hlen', out.toList, cc, hv, hgt⟩) (by rw [g3]; exact I2.bare) (fun _ z => nomatch z)
        have e4 : s' = { ({ s1 with heap := h2, toks := tk } : Shared) with heap := s'.heap, gens := s'.gens, drawn := s'.drawn, toks := s'.toks } := by
          cases s'; cases s1; cases o2; rfl
        rw [e4]
        refine ⟨.ref p', _, J, rfl, got.lst S1 ?_ g _ hn⟩
        exact prs_back h6 (fun r hr => List.mem_of_mem_take (g2.sub r (pm.mem_iff.mp hr))) e3
      · exact g.elim
  · exact g.elim
end
theorem sset_prs {ps : List Pr} {st : Store} (h : ps.length < 64) (hb : ps.all bdP = true) : sortedSetT (.tup (ps.map prD)) st = some (.lst ((setP ps).map prD)) := by
  show ((prsOf (ps.map prD)).bind _) = _
  rw [prsOf_map]
  exact if_pos ⟨h, hb⟩
theorem lset_prs {ps : List Pr} {st : Store} (h : ps.length < 64) : lenSetT (.tup (ps.map prD)) st = some (.int (setP ps).length) := by
  show ((prsOf (ps.map prD)).bind _) = _
  rw [prsOf_map]
  exact if_pos h
end DL

namespace DL
open PySem PySem.Spec PyProof.Rows L2
/-! ### a chain of three comparisons, as a test -/
def link3E (o' o'' : O2) (h i : Den) (ρ : Env) (b : D) (z : D) (s3 : Store) : Res D := match z with
  | .bl true => (h ρ s3).bind fun c s4 => (Res.of (o' b c s4) s4).bind fun z2 s5 => linkE o'' i ρ c z2 s5
  | .bl false => .ok (.bl false) s3
  | _ => .stuck
def chain3E (o o' o'' : O2) (f g h i : Den) : Den := fun ρ st => (f ρ st).bind fun a s1 => (g ρ s1).bind fun b s2 => (Res.of (o a b s2) s2).bind fun z s3 => link3E o' o'' h i ρ b z s3
section
variable {G : Gm} {W : WX} {X : Cx} {k : Nat} {a b c d : Expr} {f g h i : Den} {pos : Pos}
def tChain3 (r r' r'' : R2) (ta tb tc td : TE) : TE := fun σ H Q => ta σ H fun x H1 => tb σ H1 fun y H2 => r x y H2 fun z H3 => ∃ k, z = .bl k ∧
  (if k = true then tc σ H3 fun w' H4 => r' y w' H4 fun z' H5 => ∃ k', z' = .bl k' ∧ (if k' = true then td σ H5 fun u' H6 => r'' w' u' H6 Q else Q (.bl false) H5) else Q (.bl false) H3)
theorem pt_chain3 {op op' op'' : CmpOp} {r r' r'' : R2} {ta tb tc td : TE} (ho : OpR X (compareOp op) r) (ho' : OpR X (compareOp op') r') (ho'' : OpR X (compareOp op'') r'') (ha : PE X a ta) (hb : PE X b tb) (hc : PE X c tc) (hd : PE X d td)
    (hm : lastMarks [op, op', op''] [b, c, d] = false := by with_unfolding_all rfl) : PT X (.Compare a [op, op', op''] [b, c, d] pos) (tTest (tChain3 r r' r'' ta tb tc td)) := by
  refine ⟨fun pins s σ H Q I h => ?_⟩
  refine isTrue_chain (thn (ha.run pins s σ H _ I h) fun v s1 ⟨x, H1, I1, r1, q1⟩ => test_link (thn (hb.run pins s1 σ H1 _ I1 q1) fun u s2 ⟨y, H2, I2, r2, q2⟩ =>
    thn (ho pins s2 σ H2 x y v u _ I2 r1 r2 q2) fun d s3 ⟨z, H3, I3, r3, k, e, q3⟩ => ?_)) hm
  subst e
  cases r3
  refine wpAny_truthy_bool ?_
  cases k with
  | false =>
    obtain ⟨k', e', q'⟩ := q3
    cases e'
    exact ite_ff ⟨H3, I3, q'⟩
  | true =>
    refine ite_tt (test_link (thn (hc.run pins s3 σ H3 _ I3 q3) fun w' s4 ⟨z', H4, I4, r4, q4⟩ => thn (ho' pins s4 σ H4 y z' u w' _ I4 r2 r4 q4) fun d' s5 ⟨z2, H5, I5, r5, k2, e2, q5⟩ => ?_))
    subst e2
    cases r5
    refine wpAny_truthy_bool ?_
    cases k2 with
    | false =>
      obtain ⟨k', e', q'⟩ := q5
      cases e'
      exact ite_ff ⟨H5, I5, q'⟩
    | true =>
      refine ite_tt (test_last (thn (hd.run pins s5 σ H5 _ I5 q5) fun u' s6 ⟨z3, H6, I6, r6, q6⟩ => thn (ho'' pins s6 σ H6 z' z3 w' u' _ I6 r4 r6 q6) fun d' s7 ⟨z4, H7, I7, r7, k3, e3, q7⟩ => ?_))
      subst e3
      cases r7
      exact wpAny_truthy_bool ⟨H7, I7, q7⟩
theorem chain3_bl {o o' o'' : O2} (ho'' : Tells o'') : ∀ ρ st d s, chain3E o o' o'' f g h i ρ st = .ok d s → ∃ b, d = .bl b := by
  intro ρ st d s e
  unfold chain3E at e
  cases h1 : f ρ st with
  | ok x s1 =>
    rw [h1, Res.bind_ok] at e
    cases h2 : g ρ s1 with
    | ok y s2 =>
      rw [h2, Res.bind_ok] at e
      cases h3 : o x y s2 with
      | some z =>
        rw [h3] at e
        have e : link3E o' o'' h i ρ y z s2 = Res.ok d s := e
        unfold link3E at e
        split at e
        · cases h4 : h ρ s2 with
          | ok w s4 =>
            rw [h4, Res.bind_ok] at e
            cases h5 : o' y w s4 with
            | some z =>
              rw [h5] at e
              have e : linkE o'' i ρ w z s4 = Res.ok d s := e
              unfold linkE at e
              split at e
              · cases h6 : i ρ s4 with
                | ok w2 s6 =>
                  rw [h6, Res.bind_ok] at e
                  cases h7 : o'' w w2 s6 with
                  | some z => rw [h7] at e; cases e; exact ho'' _ _ _ _ h7
                  | none => rw [h7] at e; cases e
                | exc c s4 => rw [h6] at e; cases e
                | stuck => rw [h6] at e; cases e
              · cases e; exact ⟨_, rfl⟩
              · cases e
            | none => rw [h5] at e; cases e
          | exc c s4 => rw [h4] at e; cases e
          | stuck => rw [h4] at e; cases e
        · cases e; exact ⟨_, rfl⟩
        · cases e
      | none => rw [h3] at e; cases e
    | exc c s2 => rw [h2] at e; cases e
    | stuck => rw [h2] at e; cases e
  | exc c s1 => rw [h1] at e; cases e
  | stuck => rw [h1] at e; cases e
theorem chain3_of {o o' o'' : O2} {σ : L2.St} {H : Hp} {Q : VK} (hq : rdE G W (chain3E o o' o'' f g h i) σ H Q) : tChain3 (rd2 G o) (rd2 G o') (rd2 G o'') (rdE G W f) (rdE G W g) (rdE G W h) (rdE G W i) σ H Q := by
  obtain ⟨ρ, st, α, E, S, q⟩ := hq
  refine ⟨ρ, st, α, E, S, (post.step q).imp fun x H1 ⟨d, s1, α1, l, S1, R, q⟩ => ?_⟩
  refine ⟨ρ, s1, α1, E.mono l, S1, (post.step q).imp fun y H2 ⟨e, s2, α2, l2, S2, R2, q2⟩ => ?_⟩
  refine ⟨d, e, s2, α2, S2, R.mono l2, R2, ?_⟩
  cases ho : o d e s2 with
  | none => rw [ho] at q2; exact q2.elim
  | some z =>
    rw [ho] at q2
    intro v α3 H3 l3 S3 R3
    have q2 : post G W (Rep G.K) α2 H2 (link3E o' o'' h i ρ e z s2) σ Q := q2
    unfold link3E at q2
    split at q2
    · cases (show v = V.bl true from R3)
      refine ⟨true, rfl, ?_⟩
      rw [if_pos rfl]
      refine ⟨ρ, s2, α3, (E.mono (l.trans l2)).mono l3, S3, (post.step (post.mono l3 q2)).imp fun w H4 ⟨c, s4, α4, l4, S4, R4, q4⟩ => ?_⟩
      refine ⟨e, c, s4, α4, S4, (R2.mono l3).mono l4, R4, ?_⟩
      cases ho' : o' e c s4 with
      | none => rw [ho'] at q4; exact q4.elim
      | some z2 =>
        rw [ho'] at q4
        intro v2 α5 H5 l5 S5 R5
        have q4 : post G W (Rep G.K) α4 H4 (linkE o'' i ρ c z2 s4) σ Q := q4
        unfold linkE at q4
        split at q4
        · cases (show v2 = V.bl true from R5)
          refine ⟨true, rfl, ?_⟩
          rw [if_pos rfl]
          refine ⟨ρ, s4, α5, (((E.mono (l.trans l2)).mono l3).mono l4).mono l5, S5, (post.step (post.mono l5 q4)).imp fun w H6 ⟨c6, s6, α6, l6, S6, R6, q6⟩ => ?_⟩
          exact ⟨c, c6, s6, α6, S6, (R4.mono l5).mono l6, R6, got.of q6⟩
        · cases (show v2 = V.bl false from R5)
          refine ⟨false, rfl, ?_⟩
          rw [if_neg Bool.false_ne_true]
          exact q4 _ α5 H5 l5 S5 rfl
        · exact q4.elim
    · cases (show v = V.bl false from R3)
      refine ⟨false, rfl, ?_⟩
      rw [if_neg Bool.false_ne_true]
      exact q2 _ α3 H3 l3 S3 rfl
    · exact q2.elim
theorem db_chain3 {op op' op'' : CmpOp} {o o' o'' : O2} (h1 : OpR X (compareOp op) (rd2 G o)) (h2 : OpR X (compareOp op') (rd2 G o')) (h3 : OpR X (compareOp op'') (rd2 G o'')) (ho'' : Tells o'') (ha : DE G X W a f) (hb : DE G X W b g) (hc : DE G X W c h) (hd : DE G X W d i)
    (hm : lastMarks [op, op', op''] [b, c, d] = false := by with_unfolding_all rfl) : DB G X W (.Compare a [op, op', op''] [b, c, d] pos) (tru (chain3E o o' o'' f g h i)) :=
  ⟨(pt_chain3 h1 h2 h3 ha.pe hb.pe hc.pe hd.pe hm).imp fun σ H Q hq => chain3_of (tTest_of (chain3_bl ho'') hq)⟩
/-! ### a tuple of ints of the module -/
structure TabF (G : Gm) (mg : Str → Option Value) (x : Str) (ns : List Int) : Prop where
  at_ : ∃ a, mg x = some (.ref a) ∧ ∀ α H, Rep G.K α H (.tup (ns.map .int)) (.ref a)
theorem de_tab {x : Str} {ns : List Int} (T : TabF G X.mg x ns) (hg : Gl X x) (hd : (x == ("__debug__" : Str)) = false := by decide) : DE G X W (.Name x pos) (conE (.tup (ns.map .int))) := by
  obtain ⟨a, hm, r⟩ := T.at_
  exact ⟨(pe_glob hg hm (v := .ref a) rfl hd).imp fun _ _ _ => con_of r⟩
end
@[simp] theorem ap_chain3 (o o' o'' : O2) (f g h i : Den) (ρ : Env) (st : Store) : chain3E o o' o'' f g h i ρ st = (f ρ st).bind fun a s1 => (g ρ s1).bind fun b s2 => (Res.of (o a b s2) s2).bind fun z s3 => link3E o' o'' h i ρ b z s3 := Eq.trans rfl rfl
@[simp] theorem link3_true {o' o'' : O2} {h i : Den} {ρ : Env} {b : D} {s : Store} : link3E o' o'' h i ρ b (.bl true) s = (h ρ s).bind fun c s4 => (Res.of (o' b c s4) s4).bind fun z2 s5 => linkE o'' i ρ c z2 s5 := Eq.trans rfl rfl
@[simp] theorem link3_false {o' o'' : O2} {h i : Den} {ρ : Env} {b : D} {s : Store} : link3E o' o'' h i ρ b (.bl false) s = .ok (.bl false) s := Eq.trans rfl rfl
/-! ### the hook with the module's tuples -/
def tabB (K : PySem.W.Frag) (t : Str × List Int) : Bool := match K.lookup (He.ga K t.1) with
  | some ⟨.type c, none, .seq its _, _⟩ => decide (c = "tuple") && (decide (its.size ≤ sizeLine) && He.relAll (t.2.map V.int) its.toList)
  | _ => false
theorem repL_ints {K : PySem.W.Frag} {α : List Addr} {H : Hp} : ∀ ns : List Int, RepL K α H (ns.map .int) (ns.map V.int)
  | [] => rfl
  | n :: ns => ⟨_, _, rfl, rfl, repL_ints ns⟩
theorem tabB_ok {K : PySem.W.Frag} {t : Str × List Int} (h : tabB K t = true) (α : List Addr) (H : Hp) : Rep K α H (.tup (t.2.map .int)) (.ref (He.ga K t.1)) := by
  unfold tabB at h
  cases q : K.lookup (He.ga K t.1) with
  | none =>
    rw [q] at h
    cases h
  | some o =>
    obtain ⟨oc, od, dt, osl⟩ := o
    rw [q] at h
    cases oc with
    | type c =>
      cases od with
      | none =>
        cases dt with
        | seq its n =>
          obtain ⟨h1, h2⟩ := He.ba (show (decide (c = "tuple") && (decide (its.size ≤ sizeLine) && He.relAll (t.2.map V.int) its.toList)) = true from h)
          obtain ⟨h3, h4⟩ := He.ba h2
          exact ⟨_, _, rfl, .inr ⟨_, its, n, q, congrArg Value.type (of_decide_eq_true h1), rfl, of_decide_eq_true h3, He.relAll_ok h4, rfl⟩, repL_ints _⟩
        | _ => cases h
      | some a => cases dt <;> cases h
    | _ => cases od <;> cases dt <;> cases h
abbrev AlC : Type := He.AlD × Bool
def obsC (fa : List He.Fa) (fn : List He.DefD) (ts : List (Str × List Int)) (K : PySem.W.Frag) : AlC := (He.obsD fa fn K, ts.all (tabB K))
def valC (fn : List He.DefD) : AlC := (He.valD fn, true)
def SaysC (fa : List He.Fa) (fn : List He.DefD) (ts : List (Str × List Int)) (K : PySem.W.Frag) : Prop := obsC fa fn ts K = valC fn
def obsCG (n : Nat) (fa : List He.Fa) (fn : List He.DefD) (ts : List (Str × List Int)) (g : Addr → Option Obj) : AlC := obsC fa fn ts (He.frG g (He.asD g n))
def hookC (n : Nat) (fa : List He.Fa) (fn : List He.DefD) (ts : List (Str × List Int)) : PySem.W.Hook where
  α := AlC
  obs := fun s => obsCG n fa fn ts s.heap.get?
  val := fun _ => valC fn
  says := fun _ h => ∃ K : PySem.W.Frag, K.In h ∧ SaysC fa fn ts K
  of := fun _ _ e => ⟨_, He.frG_in, e⟩
  keeps := fun _ _ _ ⟨K, hK, c⟩ k => ⟨K, PySem.W.Frag.In.keeps hK k, c⟩
theorem obsCG_eq {n : Nat} {fa : List He.Fa} {fn : List He.DefD} {ts : List (Str × List Int)} {g : Addr → Option Obj} {s : Shared} (h : ∀ a, g a = s.heap.get? a) : obsCG n fa fn ts g = (hookC n fa fn ts).obs s := by
  have e : g = s.heap.get? := funext h
  rw [e] <;> rfl
theorem SaysC.d {fa : List He.Fa} {fn : List He.DefD} {ts : List (Str × List Int)} {K : PySem.W.Frag} (c : SaysC fa fn ts K) : He.SaysD fa fn K := congrArg (fun z : AlC => z.1) c
theorem SaysC.tab {G : Gm} {h : Heap} {mg : Str → Option Value} {fa : List He.Fa} {fn : List He.DefD} {ts : List (Str × List Int)} (c : SaysC fa fn ts G.K) (X : G.K.In h) (N : h.Ns mainGlobals mg) (i : Nat) {t : Str × List Int} (g : (He.Fa.glo t.1).ok G.K = true) (e : ts[i]? = some t := by rfl) : TabF G mg t.1 t.2 := by
  have h1 : ts.all (tabB G.K) = true := congrArg (fun z : AlC => z.2) c
  have h2 := List.all_eq_true.mp h1 t (List.mem_of_getElem? e)
  exact ⟨⟨_, He.glo_ok X N g, tabB_ok h2⟩⟩
end DL

namespace DL
open PySem PySem.Spec PyProof.Rows L2
/-! ### zip of three tuples -/
def ItT3 (K : PySem.W.Frag) (a b c : Addr) : It where
  go := fun i H => ∃ (xs ys zs : List V) (x y z : V), SqT K H a xs ∧ SqT K H b ys ∧ SqT K H c zs ∧ xs[i]? = some x ∧ ys[i]? = some y ∧ zs[i]? = some z
  yld := fun i H v H' => ∃ T x y z, v = .ref T ∧ H T = none ∧ H' = upd H T (.tup [x, y, z]) ∧ (∀ xs, SqT K H a xs → xs[i]? = some x) ∧ (∀ xs, SqT K H b xs → xs[i]? = some y) ∧ ∀ xs, SqT K H c xs → xs[i]? = some z
  stop := fun i H => ∃ xs ys zs : List V, SqT K H a xs ∧ SqT K H b ys ∧ SqT K H c zs ∧ i ≤ xs.length ∧ i ≤ ys.length ∧ i ≤ zs.length ∧ (i = xs.length ∨ i = ys.length ∨ i = zs.length)
theorem six {z TI TO i1 i2 i3 c : Addr} (h : c ∈ [z, TI, TO, i1, i2, i3]) : c = z ∨ c = TI ∨ c = TO ∨ c = i1 ∨ c = i2 ∨ c = i3 := by simpa using h
theorem turn_zip3 {P : Program} {w : World} {K : PySem.W.Frag} {elts : List Expr} {kk : Nat} {tpos : Pos} {a b c z TI TO i1 i2 i3 : Addr} (S : ZipSep3 z TI TO i1 i2 i3 [i1, a] [i2, b] [i3, c]) :
    Turn P w K (.Tuple elts kk tpos) (ItT3 K a b c) [z, TI, TO, i1, i2, i3] z (fun i h => IsZip h z TI TO .none ∧ IsTupOf3 h TI (.ref i1) (.ref i2) (.ref i3) ∧ (∃ x y u, IsTupOf3 h TO x y u) ∧ h.IsTupleIter i1 a i ∧ h.IsTupleIter i2 b i ∧ h.IsTupleIter i3 c i) where
  mem := by simp
  obj := fun i h st d hd => by
    obtain ⟨hz, hTI, ⟨x, y, u, hTO⟩, ⟨o1, e1, _, d1⟩, ⟨o2, e2, _, d2⟩, ⟨o3, e3, _, d3⟩⟩ := st
    rcases six hd with q | q | q | q | q | q
    · rw [q]; exact ⟨_, hz, fun v q => nomatch q⟩
    · rw [q]; exact ⟨_, hTI, fun v q => nomatch q⟩
    · rw [q]; exact ⟨_, hTO, fun v q => nomatch q⟩
    · rw [q]; exact ⟨o1, e1, fun v q => by rw [d1] at q; cases q⟩
    · rw [q]; exact ⟨o2, e2, fun v q => by rw [d2] at q; cases q⟩
    · rw [q]; exact ⟨o3, e3, fun v q => by rw [d3] at q; cases q⟩
  keep := fun i h h' st k => by
    obtain ⟨hz, hTI, ⟨x, y, u, hTO⟩, h1, h2, h3⟩ := st
    exact ⟨k z (by simp) _ hz, k TI (by simp) _ hTI, ⟨x, y, u, k TO (by simp) _ hTO⟩, h1.at fun o q => k i1 (by simp) o q, h2.at fun o q => k i2 (by simp) o q, h3.at fun o q => k i3 (by simp) o q⟩
  item := by
    intro X hP hw hK hc i pins s σ H E I hf st hg
    subst hP hw hK
    obtain ⟨hz, hTI, ⟨x0, y0, u0, hTO⟩, h1, h2, h3⟩ := st
    obtain ⟨xs, ys, zs, x, y, u, hqx, hqy, hqz, hx, hy, hu⟩ := hg
    obtain ⟨its1, rv1, p1, _⟩ := I.tuple hqx
    obtain ⟨its2, rv2, p2, _⟩ := I.tuple hqy
    obtain ⟨its3, rv3, p3, _⟩ := I.tuple hqz
    obtain ⟨v1, hv1, r1⟩ := rv1.get hx
    obtain ⟨v2, hv2, r2⟩ := rv2.get hy
    obtain ⟨v3, hv3, r3⟩ := rv3.get hu
    have lz : z < s.heap.objs.size := Heap.lt_size hz
    have lenOf : ∀ {its : List Value} {v : Value}, its[i]? = some v → i < its.toArray.size := fun h => by
      have := (List.getElem?_eq_some_iff.mp h).1
      simpa using this
    have ne1 : a ≠ i1 := fun e => by
      obtain ⟨o, ho, hcl, _⟩ := h1
      obtain ⟨o', ho', hcl', _⟩ := (show s.heap.IsTuple a its1.toArray from p1)
      rw [e, ho] at ho'; cases ho'; rw [hcl] at hcl'; exact absurd hcl' (by simp)
    have ne2 : b ≠ i2 := fun e => by
      obtain ⟨o, ho, hcl, _⟩ := h2
      obtain ⟨o', ho', hcl', _⟩ := (show s.heap.IsTuple b its2.toArray from p2)
      rw [e, ho] at ho'; cases ho'; rw [hcl] at hcl'; exact absurd hcl' (by simp)
    have ne3 : c ≠ i3 := fun e => by
      obtain ⟨o, ho, hcl, _⟩ := h3
      obtain ⟨o', ho', hcl', _⟩ := (show s.heap.IsTuple c its3.toArray from p3)
      rw [e, ho] at ho'; cases ho'; rw [hcl] at hcl'; exact absurd hcl' (by simp)
    have hA : X.A.in1.handled = none := by rw [show X.A.in1.handled = X.A.handled from rfl]; exact I.ok.hd hc
    refine wpAny_pyNext_zipD3_item S (drawsT (A := X.A.in1) (prog := X.prog) (w := X.w) hA i1 a ne1 its1.toArray) (drawsT (A := X.A.in1) (prog := X.prog) (w := X.w) hA i2 b ne2 its2.toArray) (drawsT (A := X.A.in1) (prog := X.prog) (w := X.w) hA i3 c ne3 its3.toArray)
      hz hTI hTO ⟨h1, p1⟩ ⟨h2, p2⟩ ⟨h3, p3⟩ (lenOf hv1) (lenOf hv2) (lenOf hv3) fun w1 w2 w3 h' tk y1 y2 y3 z' TO' s1 s2 s3 hT hsz hk => ?_
    have at_ : ∀ {its : List Value} {v w : Value}, its[i]? = some v → its.toArray[i]? = some w → w = v := fun e1 e2 => by
      have e3 : _ := e2
      rw [List.getElem?_toArray, e1] at e3
      exact (Option.some.inj e3).symm
    cases at_ hv1 y1
    cases at_ hv2 y2
    cases at_ hv3 y3
    refine ⟨_, rfl, wpAny_letOwnedTupleGo_zip (s := { s with heap := h', toks := tk }) z' fun h'' z'' sb => ?_⟩
    have hT2 : h''.get? s.heap.objs.size = some { cls := .type "tuple", data := .seq #[v1, v2, v3] } := (sb.2 _ (Nat.ne_of_gt lz)).trans hT
    have new : ObjOk X.prog X.w (upd H s.heap.objs.size (.tup [x, y, u])) h'' s.heap.objs.size (.tup [x, y, u]) :=
      ⟨by show 3 ≤ sizeLine; decide, [v1, v2, v3], .cons r1 (.cons r2 (.cons r3 .nil)), ⟨_, hT2, rfl, _, rfl⟩⟩
    have I1 : Inv X pins σ (upd H s.heap.objs.size (.tup [x, y, u])) { s with heap := h'', toks := tk } :=
      I.turnedNew (t' := tk) (ch := [z, TI, TO, i1, i2, i3]) (fun d o hb q => (sb.2 d (fun q' => hb (by simp [q']))).trans (hk d o (fun q' => hb (by simp [q'])) (fun q' => hb (by simp [q'])) (fun q' => hb (by simp [q'])) (fun q' => hb (by simp [q'])) (fun q' => hb (by simp [q'])) q)) hf (Nat.le_refl _) new
    refine ⟨.ref s.heap.objs.size, _, I1, rfl, ⟨_, x, y, u, rfl, I.hok.fresh (Nat.le_refl _), rfl, fun l hl => by rw [I.tuple_inj hl hqx]; exact hx, fun l hl => by rw [I.tuple_inj hl hqy]; exact hy, fun l hl => by rw [I.tuple_inj hl hqz]; exact hu⟩, ⟨z'', ?_, ⟨v1, v2, v3, ?_⟩, ?_, ?_, ?_⟩, fun d hcm => ?_⟩
    · exact (sb.2 _ S.TIz).trans (hk _ _ S.TIz S.TITO S.TIi1 S.TIi2 S.TIi3 hTI)
    · exact (sb.2 _ S.TOz).trans TO'
    · exact s1.1.at fun o q => (sb.2 _ (Ne.symm S.zi1)).trans q
    · exact s2.1.at fun o q => (sb.2 _ (Ne.symm S.zi2)).trans q
    · exact s3.1.at fun o q => (sb.2 _ (Ne.symm S.zi3)).trans q
    · have hlt : d < s.heap.objs.size := by
        rcases six hcm with q | q | q | q | q | q
        · rw [q]; exact lz
        · rw [q]; exact Heap.lt_size hTI
        · rw [q]; exact Heap.lt_size hTO
        · rw [q]; obtain ⟨_, e1, _⟩ := h1; exact Heap.lt_size e1
        · rw [q]; obtain ⟨_, e2, _⟩ := h2; exact Heap.lt_size e2
        · rw [q]; obtain ⟨_, e3, _⟩ := h3; exact Heap.lt_size e3
      rw [upd_ne (Nat.ne_of_lt hlt)]
      exact (hf d hcm).1
  done := by
    intro X hP hw hK hc i pins s σ H E I hf st hg
    subst hP hw hK
    obtain ⟨hz, hTI, ⟨x0, y0, u0, hTO⟩, h1, h2, h3⟩ := st
    obtain ⟨xs, ys, zs, hqx, hqy, hqz, le1, le2, le3, hend⟩ := hg
    obtain ⟨its1, rv1, p1, _⟩ := I.tuple hqx
    obtain ⟨its2, rv2, p2, _⟩ := I.tuple hqy
    obtain ⟨its3, rv3, p3, _⟩ := I.tuple hqz
    have l1 := rv1.length
    have l2 := rv2.length
    have l3 := rv3.length
    have ne1 : a ≠ i1 := fun e => by
      obtain ⟨o, ho, hcl, _⟩ := h1
      obtain ⟨o', ho', hcl', _⟩ := (show s.heap.IsTuple a its1.toArray from p1)
      rw [e, ho] at ho'; cases ho'; rw [hcl] at hcl'; exact absurd hcl' (by simp)
    have ne2 : b ≠ i2 := fun e => by
      obtain ⟨o, ho, hcl, _⟩ := h2
      obtain ⟨o', ho', hcl', _⟩ := (show s.heap.IsTuple b its2.toArray from p2)
      rw [e, ho] at ho'; cases ho'; rw [hcl] at hcl'; exact absurd hcl' (by simp)
    have ne3 : c ≠ i3 := fun e => by
      obtain ⟨o, ho, hcl, _⟩ := h3
      obtain ⟨o', ho', hcl', _⟩ := (show s.heap.IsTuple c its3.toArray from p3)
      rw [e, ho] at ho'; cases ho'; rw [hcl] at hcl'; exact absurd hcl' (by simp)
    have hA : X.A.in1.handled = none := by rw [show X.A.in1.handled = X.A.handled from rfl]; exact I.ok.hd hc
    refine wpAny_pyNext_zipD3_end S (drawsT (A := X.A.in1) (prog := X.prog) (w := X.w) hA i1 a ne1 its1.toArray) (drawsT (A := X.A.in1) (prog := X.prog) (w := X.w) hA i2 b ne2 its2.toArray) (drawsT (A := X.A.in1) (prog := X.prog) (w := X.w) hA i3 c ne3 its3.toArray)
      hz hTI hTO ⟨h1, p1⟩ ⟨h2, p2⟩ ⟨h3, p3⟩ (by simp; omega) (by simp; omega) (by simp; omega) (by simp; omega) fun h' tk hk => ⟨rfl, I.turnedL (t' := tk) (ch := [z, TI, TO, i1, i2, i3]) (fun d o hb q =>
      hk d o (fun q' => hb (by simp [q'])) (fun q' => hb (by simp [q'])) (fun q' => hb (by simp [q'])) (fun q' => hb (by simp [q'])) (fun q' => hb (by simp [q'])) q) hf⟩
  self := fun A i s Q E st h => wpAny_pyIter_zip st.1 h
def iZip3 (K : PySem.W.Frag) (ta : TA) : TI := fun σ H R => ta σ H fun vs H1 => ∃ a b c xs ys zs, vs = [.ref a, .ref b, .ref c] ∧ SqT K H1 a xs ∧ SqT K H1 b ys ∧ SqT K H1 c zs ∧ R (ItT3 K a b c) H1
theorem pi_zip3 {X : Cx} {e e2 e3 : Expr} {ta : TA} {p pos tpos : Pos} {elts : List Expr} {kk : Nat} (hg : Gl X "zip") (hm : X.mg "zip" = none) (ha : PA X [e, e2, e3] ta)
    (hs : starEach [e, e2, e3] X.env = (false, eval e X.env) :: starEach [e2, e3] X.env := by rfl) (hpl : (backTo pos (starEach [e2, e3] X.env)).any (·.1) = false := by rfl) :
    PI X (.Tuple elts kk tpos) (.Call (.Name "zip" p) [e, e2, e3] [] pos) (iZip3 X.K ta) := by
  refine ⟨fun pins s σ H R I h => ?_⟩
  refine Call_ (ld_blt I hg hm PyProof.Rows.boot_zip (PyProof.Rows.callWith_type1 (thn (ha.run pos pins s σ H _ I h) fun us s1 ⟨vs, H1, I1, r1, q1⟩ => ?_) hs hpl))
  obtain ⟨a, b, c, xs, ys, zs, ex, hqx, hqy, hqz, q⟩ := q1
  subst ex
  obtain ⟨u1, t1, rfl, e1, r1⟩ : ∃ u t, us = u :: t ∧ RelV (.ref a) u ∧ Vals [V.ref b, .ref c] t := by cases r1 with | cons r rr => exact ⟨_, _, rfl, r, rr⟩
  obtain ⟨u2, t2, rfl, e2, r1⟩ : ∃ u t, t1 = u :: t ∧ RelV (.ref b) u ∧ Vals [V.ref c] t := by cases r1 with | cons r rr => exact ⟨_, _, rfl, r, rr⟩
  obtain ⟨u3, t3, rfl, e3, r1⟩ : ∃ u t, t2 = u :: t ∧ RelV (.ref c) u ∧ Vals [] t := by cases r1 with | cons r rr => exact ⟨_, _, rfl, r, rr⟩
  cases r1
  cases e1
  cases e2
  cases e3
  obtain ⟨its, rv, p1, _⟩ := I1.tuple hqx
  obtain ⟨its2, rv2, p2, _⟩ := I1.tuple hqy
  obtain ⟨its3, rv3, p3, _⟩ := I1.tuple hqz
  obtain ⟨o1, ho1, _⟩ := id p1
  obtain ⟨o2, ho2, _⟩ := id p2
  obtain ⟨o3, ho3, _⟩ := id p3
  have l1 : a < s1.heap.objs.size := Heap.lt_size ho1
  have l2 : b < s1.heap.objs.size := Heap.lt_size ho2
  have l3 : c < s1.heap.objs.size := Heap.lt_size ho3
  have sep : ZipSep3 (s1.heap.objs.size + 5) (s1.heap.objs.size + 3) (s1.heap.objs.size + 4) s1.heap.objs.size (s1.heap.objs.size + 1) (s1.heap.objs.size + 2) [s1.heap.objs.size, a] [s1.heap.objs.size + 1, b] [s1.heap.objs.size + 2, c] :=
    zip_sep3 (fp1 := [a]) (fp2 := [b]) (fp3 := [c]) (fun d hd => by rw [List.mem_singleton.mp hd]; exact l1) (fun d hd => by rw [List.mem_singleton.mp hd]; exact l2) (fun d hd => by rw [List.mem_singleton.mp hd]; exact l3)
  refine zip_begins3 (begins_tuple a its.toArray) (begins_tuple b its2.toArray) (begins_tuple c its3.toArray) p1 p2 p3 fun h' hz hTI hTO h1 h2 h3 hsz hk => wpAny_pyIter_zip hz ?_
  have I2 : Inv X pins σ H1 { s1 with heap := h' } := I1.kept (t' := s1.toks) hk
  refine ⟨s1.heap.objs.size + 5, [s1.heap.objs.size + 5, s1.heap.objs.size + 3, s1.heap.objs.size + 4, s1.heap.objs.size, s1.heap.objs.size + 1, s1.heap.objs.size + 2], _, _, H1, rfl, I2, turn_zip3 sep, ⟨hz, hTI, ⟨_, _, _, hTO⟩, ⟨_, h1, rfl, rfl⟩, ⟨_, h2, rfl, rfl⟩, ⟨_, h3, rfl, rfl⟩⟩, fun d hcm => ?_, q⟩
  have hle : s1.heap.objs.size ≤ d := by
    rcases six hcm with z | z | z | z | z | z
    · rw [z]; exact Nat.le_add_right _ _
    · rw [z]; exact Nat.le_add_right _ _
    · rw [z]; exact Nat.le_add_right _ _
    · rw [z]; exact Nat.le_refl _
    · rw [z]; exact Nat.le_add_right _ _
    · rw [z]; exact Nat.le_add_right _ _
  exact I1.fpOk hle (I1.hok.fresh hle)
def triples (xs ys zs : List D) : List D := (xs.zip (ys.zip zs)).map fun p => .ltp [p.1, p.2.1, p.2.2]
theorem triples_at {xs ys zs : List D} {i : Nat} {x0 : D} (e : (triples xs ys zs)[i]? = some x0) : ∃ x y z, xs[i]? = some x ∧ ys[i]? = some y ∧ zs[i]? = some z ∧ x0 = .ltp [x, y, z] := by
  unfold triples at e
  rw [List.getElem?_map] at e
  cases h : (xs.zip (ys.zip zs))[i]? with
  | none => rw [h] at e; cases e
  | some p =>
    rw [h] at e
    cases e
    obtain ⟨x, y, z⟩ := p
    obtain ⟨h1, h2⟩ := List.getElem?_zip_eq_some.mp h
    obtain ⟨h2, h3⟩ := List.getElem?_zip_eq_some.mp h2
    exact ⟨x, y, z, h1, h2, h3, rfl⟩
section
variable {G : Gm} {W : WX} {X : Cx} {k : Nat} {α : List Addr} {H : Hp} {st : Store}
theorem itok_zip3 {a b c : Addr} {xs ys zs : List D} {vs ws us : List V} (t : TupAt G.K α H a vs) (r : RepL G.K α H xs vs) (t2 : TupAt G.K α H b ws) (r2 : RepL G.K α H ys ws) (t3 : TupAt G.K α H c us) (r3 : RepL G.K α H zs us) : ItOk G (ItT3 G.K a b c) ⟨triples xs ys zs, none⟩ α H where
  go := fun i x0 α1 st1 H1 l S _ e => by
    obtain ⟨x, y, z, ex, ey, ez, rfl⟩ := triples_at e
    obtain ⟨v, e1, R1⟩ := (r.mono l).get ex
    obtain ⟨w, e2, R2⟩ := (r2.mono l).get ey
    obtain ⟨u, e3, R3⟩ := (r3.mono l).get ez
    refine ⟨⟨vs, ws, us, v, w, u, (t.mono l).seq, (t2.mono l).seq, (t3.mono l).seq, e1, e2, e3⟩, fun u' H' yy => ?_⟩
    obtain ⟨T, v', w', z', rfl, nT, rfl, f1, f2, f3⟩ := yy
    have q1 := f1 vs (t.mono l).seq
    rw [e1] at q1; cases q1
    have q2 := f2 ws (t2.mono l).seq
    rw [e2] at q2; cases q2
    have q3 := f3 us (t3.mono l).seq
    rw [e3] at q3; cases q3
    have lT : Le α1 H1 α1 (upd H1 T (.tup [v, w, u])) := Le.laid nT
    exact ⟨lT, S.laid nT, T, [v, w, u], rfl, ⟨S.notIn nT, .inl upd_same⟩, .cons (R1.mono lT) (.cons (R2.mono lT) (.cons (R3.mono lT) .nil))⟩
  stop := fun α1 st1 H1 l S _ => ⟨vs, ws, us, (t.mono l).seq, (t2.mono l).seq, (t3.mono l).seq, by
    have := r.len; have := r2.len; have := r3.len
    simp only [triples, List.length_map, List.length_zip]; omega⟩
def zip3D (ds : List D) : Option ItD := match ds with
  | [.tup xs, .tup ys, .tup zs] => some ⟨triples xs ys zs, none⟩
  | _ => none
def zip3E (f : DenL) : DenI := fun ρ st => (f ρ st).bind fun ds s => Res.of (zip3D ds) s
theorem di_zip3 {e e2 e3 : Expr} {f : DenL} {p pos tpos : Pos} {elts : List Expr} {kk : Nat} (C : Cm G X W k) (hg : Gl X "zip") (hm : X.mg "zip" = none) (ha : DA G X W [e, e2, e3] f)
    (hs : starEach [e, e2, e3] X.env = (false, eval e X.env) :: starEach [e2, e3] X.env := by rfl) (hpl : (backTo pos (starEach [e2, e3] X.env)).any (·.1) = false := by rfl) : DI G X W (.Tuple elts kk tpos) (.Call (.Name "zip" p) [e, e2, e3] [] pos) (zip3E f) := by
  refine ⟨(pi_zip3 hg hm ha.pa hs hpl).imp ?_⟩
  intro σ H Q hq
  obtain ⟨ρ, st, α, E, S, q⟩ := hq
  refine ⟨ρ, st, α, E, S, (post.step (rp := RepL G.K) q).imp fun vs H1 ⟨ds, s1, α1, l, S1, R, q⟩ => ?_⟩
  unfold zip3D at q
  rw [C.K]
  split at q
  · rename_i xs ys zs
    obtain ⟨v, t1, rfl, r1, R⟩ := (show ∃ v r, vs = v :: r ∧ Rep G.K α1 H1 (.tup xs) v ∧ RepL G.K α1 H1 [.tup ys, .tup zs] r from R)
    obtain ⟨w, t2, rfl, r2, R⟩ := (show ∃ v r, t1 = v :: r ∧ Rep G.K α1 H1 (.tup ys) v ∧ RepL G.K α1 H1 [.tup zs] r from R)
    obtain ⟨u, t3, rfl, r3, R⟩ := (show ∃ v r, t2 = v :: r ∧ Rep G.K α1 H1 (.tup zs) v ∧ RepL G.K α1 H1 [] r from R)
    cases (show t3 = [] from R)
    obtain ⟨a, us, rfl, t1, q1⟩ := r1.tupOf
    obtain ⟨b, ws, rfl, t2, q2⟩ := r2.tupOf
    obtain ⟨c, xs', rfl, t3, q3⟩ := r3.tupOf
    exact ⟨a, b, c, us, ws, xs', rfl, t1.seq, t2.seq, t3.seq, q _ α1 H1 .refl S1 (itok_zip3 t1 q1 t2 q2 t3 q3)⟩
  · exact q.elim
end
@[simp] theorem ap_zip3 (f : DenL) (ρ : Env) (st : Store) : zip3E f ρ st = (f ρ st).bind fun ds s => Res.of (zip3D ds) s := Eq.trans rfl rfl
@[simp] theorem zip3_tup {xs ys zs : List D} : zip3D [.tup xs, .tup ys, .tup zs] = some ⟨triples xs ys zs, none⟩ := Eq.trans rfl rfl
end DL

namespace DL
open PySem PySem.Spec PyProof.Rows L2
/-! ### max(t), t a tuple of ints -/
section
variable {prog : Program} {w : World} {A : Around} {E : Value → Shared → Prop} {s : Shared} {l : Addr} {its : List Value} {ns : List Int}
theorem maxT_raw {Q : Value → Shared → Prop} (hh : A.handled = none) (hl : s.heap.IsTuple l its.toArray) (hi : IntsAre its ns) (hne : 0 < ns.length)
    (h : ∀ h' tk M t', (∀ b o, s.heap.get? b = some o → h'.get? b = some o) → M ∈ ns → (∀ a, a ∈ ns → a ≤ M) → Q (.int M t') { s with heap := h', toks := tk }) : wpAny (model prog w) A (call (.builtin "max") [.ref l]) Q E s := by
  obtain ⟨xs, e⟩ := hi.allInts.items
  have hn : numsOf (intItems xs).toList = ns := by rw [← e]; exact hi.numsOf
  rw [nums_intItems] at hn
  subst hn
  rw [e] at hl
  have hsz : 0 < xs.size := by simpa using hne
  have hlt : l < s.heap.objs.size := by obtain ⟨_, z, _⟩ := hl; exact Heap.lt_size z
  refine call_max_walk (wpAny_pyIter_tuple hl ?_)
  refine ⟨s.heap.objs.size, _, _, _, _, _, _, rfl, Walks.tuple (A := A.in1) hh _ l (Nat.ne_of_lt hlt) (intItems xs), ⟨⟨_, Heap.get?_push_size _ rfl, rfl, rfl⟩, hl.push _⟩, fun b hb => ?_, by simpa [intItems] using hsz, CmpOf.ints_gt (numAt xs) (fun _ _ => intItems_at), fun v h' tk hP hk => ?_⟩
  · show b < (s.heap.push _).objs.size
    rw [Heap.size_push]
    rcases List.mem_cons.mp hb with rfl | hb
    · exact Nat.lt_succ_self _
    · cases List.mem_singleton.mp hb
      exact Nat.lt_succ_of_lt hlt
  · have hP : (intItems xs)[argBest (fun i j => decide (numAt xs i > numAt xs j)) (xs.size - 1)]? = some v := by simpa [intItems] using hP
    obtain ⟨t, rfl⟩ := intItems_at hP
    obtain ⟨h1, h2⟩ := argBest_gt (numAt xs) (xs.size - 1)
    refine h h' tk _ t (fun b o e => hk b o (fun hm => ?_) (Heap.get?_push_of_some _ e)) ?_ fun a ha => ?_
    · cases List.mem_singleton.mp hm
      exact absurd (Heap.lt_size e) (Nat.lt_irrefl _)
    · rw [numAt_eq]; exact PySem.getD_mem (by rw [List.length_map, Array.length_toList]; omega)
    · obtain ⟨j, hj, rfl⟩ := mem_getD ha
      rw [List.length_map, Array.length_toList] at hj
      rw [← numAt_eq]; exact h2 j (by omega)
end
def rMaxT (K : PySem.W.Frag) : List V → Hp → VK → Prop := fun vs H Q => ∃ (a : Addr) (ns : List Int), vs = [V.ref a] ∧ SqT K H a (ns.map V.int) ∧ 0 < ns.length ∧ ∀ m, m ∈ ns → (∀ y, y ∈ ns → y ≤ m) → Q (.int m) H
section
variable {G : Gm} {W : WX} {X : Cx} {k : Nat} {e : Expr} {es : List Expr} {g : DenL} {p pos : Pos}
theorem cr_maxT (hc : X.calm = true) : CallR X (.builtin "max") (rMaxT X.K) := by
  intro pins s σ H vs us Q I r h
  obtain ⟨a, ns, rfl, hs, hne, q⟩ := h
  obtain ⟨its, rv, hl, _⟩ := I.tuple hs
  rw [Vals.ref1 r]
  exact maxT_raw (I.ok.hd hc) hl rv.ints hne fun h' tk m t' hk h1 h2 => ⟨.int _, H, I.kept hk, ⟨_, rfl⟩, q m h1 h2⟩
def maxTO : OL := fun ds st => match ds with
  | [.tup xs] => (intsOf xs).bind fun ns => if 0 < ns.length then some (.int (maxI ns)) else none
  | _ => none
theorem cr_maxTD (C : Cm G X W k) : CallR X (.builtin "max") (rdC G maxTO) := by
  refine (cr_maxT C.calm).imp fun vs H Q ⟨ds, st, α, S, R, g⟩ => ?_
  unfold maxTO at g
  split at g
  · rename_i xs
    obtain ⟨v, rfl, r⟩ := R.one
    obtain ⟨a, us, rfl, t1, q1⟩ := r.tupOf
    cases hi : intsOf xs with
    | none => rw [hi] at g; exact g.elim
    | some ns =>
      rw [hi] at g
      have g : got G α H st (if 0 < ns.length then some (.int (maxI ns)) else none) Q := g
      split at g
      · rename_i hl
        cases intsOf_eq hi
        cases RepL.of_ints q1
        rw [C.K]
        refine ⟨a, ns, rfl, t1.seq, hl, fun m hm hle => ?_⟩
        obtain ⟨h1, h2⟩ := maxI_of hl
        have e : m = maxI ns := Int.le_antisymm (h2 m hm) (hle _ h1)
        subst e
        exact got.here (d := .int _) S rfl g
      · exact g.elim
  · exact g.elim
theorem dc_maxT (C : Cm G X W k) (hm : X.mg "max" = none) (ha : DA G X W (e :: es) g) (hg : Gl X "max" := by rfl) (he : starEach (e :: es) X.env = (false, eval e X.env) :: starEach es X.env := by rfl) (hpl : (backTo pos (starEach es X.env)).any (·.1) = false := by rfl) :
    DE G X W (.Call (.Name "max" p) (e :: es) [] pos) (opL maxTO g) := de_callB (cr_maxTD C) hg hm bt_max ha (he := he) (hpl := hpl)
end
@[simp] theorem maxT_tup {xs : List D} {st : Store} : maxTO [.tup xs] st = (intsOf xs).bind fun ns => if 0 < ns.length then some (.int (maxI ns)) else none := Eq.trans rfl rfl
end DL

namespace DL
open PySem PySem.Spec PyProof.Rows L2
def l_draw_k01_c1 : Den :=
  compE (itE (varE 0)) (nmT 3) (yesB) (opL absO (consL (varE 3) (nilL))) [3]
def b_l_draw_k01 : DenS :=
  seqS (ifS (notB (tru (varE 1))) (exprS (mdE appO (varE 1) (consL (opL maxO (consL (op2 addD (l_draw_k01_c1) (lstE (consL (conE (.int 0)) (nilL)))) (nilL))) (nilL)))) (skipS)) (seqS (exprS (mdE appO (varE 1) (consL (conE (.int 0)) (nilL)))) (seqS (asgS 4 (opL lenO (consL (varE 1) (nilL)))) (seqS (asgS 3 (ifE (tru (varE 0)) (op2 ixD (varE 0) (op2 modD (varE 4) (opL lenO (consL (varE 0) (nilL))))) (conE (.int 0)))) (seqS (asgS 5 (op2 modD (op2 ixD (varE 1) (conE (.int 0))) (conE (.int 65536)))) (seqS (setS (op2 fdivD (op2 ixD (varE 1) (conE (.int 0))) (conE (.int 65536))) (varE 1) (conE (.int 0))) (seqS (asgS 6 (op2 modD (op2 addD (op2 addD (varE 3) (op2 mulD (conE (.int 40503)) (varE 5))) (op2 mulD (conE (.int 104729)) (varE 4))) (conE (.int 4294967291)))) (seqS (asgS 6 (op2 modD (op2 mulD (op2 modD (op2 mulD (varE 6) (varE 6)) (conE (.int 4294967279))) (conE (.int 48271))) (conE (.int 4294967291)))) (seqS (asgS 7 (op2 modD (op2 mulD (op2 modD (op2 mulD (varE 6) (varE 6)) (conE (.int 4294967279))) (conE (.int 69621))) (conE (.int 4294967291)))) (retS (op2 modD (op2 addD (op2 mulD (op2 fdivD (varE 6) (conE (.int 64))) (conE (.int 67108864))) (op2 fdivD (varE 7) (conE (.int 64)))) (varE 2)))))))))))
def f_l_draw_k01 : Fn := defG 8 3 b_l_draw_k01
def b_l_pick : DenS :=
  retS (op2 ixD (varE 2) (callE 3 f_l_draw_k01 (consL (varE 0) (consL (varE 1) (consL (opL lenO (consL (varE 2) (nilL))) (nilL))))))
def f_l_pick : Fn := defG 3 3 b_l_pick
abbrev dep_l_same : Nat := 10
def l_same_c1 (rec : Fn) : Den :=
  compE (zipE (consL (varE 0) (consL (varE 1) (nilL)))) (tupT (consT (nmT 2) (consT (nmT 3) (nilT)))) (yesB) (callE 2 rec (consL (varE 2) (consL (varE 3) (nilL)))) [2, 3]
def b_l_same (rec : Fn) : DenS :=
  seqS (ifS (tru (op2 isNonD (varE 1) (conE .non))) (retS (op2 isNonD (varE 0) (conE .non))) (skipS)) (seqS (ifS (tru (op1 (isiD "bool") (varE 1))) (retS (andE (op1 (isiD "bool") (varE 0)) (op2 eqD (varE 0) (varE 1)))) (skipS)) (seqS (ifS (tru (op1 (isiD "tuple") (varE 1))) (seqS (ifS (orB (notB (tru (op1 (isiD "tuple") (varE 0)))) (tru (op2 neD (opL lenO (consL (varE 0) (nilL))) (opL lenO (consL (varE 1) (nilL)))))) (retS (conE (.bl false))) (skipS)) (retS (opL allO (consL ((l_same_c1 rec)) (nilL))))) (skipS)) (seqS (ifS (tru (op1 (isiD "str") (varE 1))) (retS (andE (op1 (isiD "str") (varE 0)) (op2 eqD (varE 0) (varE 1)))) (skipS)) (retS (andE (op1 (isiD "int") (varE 0)) (andE (notE (op1 (isiD "bool") (varE 0))) (op2 eqD (varE 0) (varE 1))))))))
def f_l_same : Nat → Fn
  | 0 => fun _ _ => .stuck
  | k + 1 => defG 4 2 (b_l_same (f_l_same k))
/-! ### draws -/
/-- the town behind at most n draws -/
def Tn (n : Nat) (c : Cell) : Prop := ∃ t : List Int, c = .lst (t.map .int) ∧ t.length ≤ 2 * n
theorem Tn.mono {n m : Nat} {c : Cell} (h : Tn n c) (l : n ≤ m) : Tn m c := let ⟨t, e, k⟩ := h; ⟨t, e, by omega⟩
theorem Tn.lo {n m : Nat} {c : Cell} (h : Tn n c) : loC m c = true := by
  obtain ⟨t, rfl, _⟩ := h
  exact lo_ints
theorem mul_ok {i j : Int} (hi : i.natAbs < 2 ^ 64) (hj : j.natAbs < 2 ^ 64) : mulOk i j := by
  right
  unfold CMulW
  have b : ∀ n : Nat, n < 2 ^ 64 → n.log2 ≤ 64 := fun n h => by
    by_cases h0 : n = 0
    · subst h0; decide
    · have := (Nat.log2_lt h0).mpr h
      omega
  have := b _ hi
  have := b _ hj
  omega
theorem cdiv_ok {i j : Int} (h0 : 0 < j) (h : j.natAbs < 2 ^ 64) : CDivW i j := by
  refine ⟨h0, ?_⟩
  have := (Nat.log2_lt (n := j.natAbs) (by omega) (k := 64)).mpr h
  omega
theorem mod_lt' (i : Int) {j : Int} (h : 0 < j) : 0 ≤ i % j ∧ i % j < j := ⟨Int.emod_nonneg _ (by omega), Int.emod_lt_of_pos _ h⟩
@[reducible] def rest1 : DenS := (seqS (exprS (mdE appO (varE 1) (consL (conE (.int 0)) (nilL)))) (seqS (asgS 4 (opL lenO (consL (varE 1) (nilL)))) (seqS (asgS 3 (ifE (tru (varE 0)) (op2 ixD (varE 0) (op2 modD (varE 4) (opL lenO (consL (varE 0) (nilL))))) (conE (.int 0)))) (seqS (asgS 5 (op2 modD (op2 ixD (varE 1) (conE (.int 0))) (conE (.int 65536)))) (seqS (setS (op2 fdivD (op2 ixD (varE 1) (conE (.int 0))) (conE (.int 65536))) (varE 1) (conE (.int 0))) (seqS (asgS 6 (op2 modD (op2 addD (op2 addD (varE 3) (op2 mulD (conE (.int 40503)) (varE 5))) (op2 mulD (conE (.int 104729)) (varE 4))) (conE (.int 4294967291)))) (seqS (asgS 6 (op2 modD (op2 mulD (op2 modD (op2 mulD (varE 6) (varE 6)) (conE (.int 4294967279))) (conE (.int 48271))) (conE (.int 4294967291)))) (seqS (asgS 7 (op2 modD (op2 mulD (op2 modD (op2 mulD (varE 6) (varE 6)) (conE (.int 4294967279))) (conE (.int 69621))) (conE (.int 4294967291)))) (retS (op2 modD (op2 addD (op2 mulD (op2 fdivD (varE 6) (conE (.int 64))) (conE (.int 67108864))) (op2 fdivD (varE 7) (conE (.int 64)))) (varE 2)))))))))))
theorem draw_ok {ns : List Int} {n : Nat} {c : Cell} {r : Store} {m : Int} (hns : ns.length ≤ 63) (h : Tn n c) (hn : n ≤ 1000000) (hm : 0 < m) :
    ∃ i c', f_l_draw_k01 [.scr ns, .ref 0, .int m] (c :: r) = .ok (.int i) (c' :: r) ∧ 0 ≤ i ∧ i < m ∧ Tn (n + 1) c' := by
  obtain ⟨t, rfl, ht⟩ := h
  have habs : ∀ s : Store, l_draw_k01_c1 [some (.scr ns), some (.ref 0), some (.int m), none, none, none, none, none] s = .ok (.lst (ns.map fun i => .int (if i < 0 then -i else i))) s := fun s => by
    unfold l_draw_k01_c1
    rw [ap_comp]
    simp
    have := comp_map (tg := nmT 3) (elt := opL absO (consL (varE 3) nilL)) (ρw := [some (.scr ns), some (.ref 0), some (.int m), none, none, none, none, none]) (s0 := s) (l := ns.map .int) (fun d => match d with | .int i => .int (if i < 0 then -i else i) | d => d) (fun x hx s1 => by
      obtain ⟨i, _, rfl⟩ := List.mem_map.mp hx
      exact ⟨_, rfl, by simp⟩) (lo_list fun x hx => by
        obtain ⟨y, hy, rfl⟩ := List.mem_map.mp hx
        obtain ⟨i, _, rfl⟩ := List.mem_map.mp hy
        rfl) (by simp; omega)
    rw [this, List.map_map]
    rfl
  have main : ∀ (a : Int) (t : List Int) (c0 : Cell), t.length ≤ 2 * n → ∃ i c', leave (c0 :: r) (rest1 [some (.scr ns), some (.ref 0), some (.int m), none, none, none, none, none] (.lst (.int a :: t.map .int) :: r)) = .ok (.int i) (c' :: r) ∧ 0 ≤ i ∧ i < m ∧ Tn (n + 1) c' := by
    intro a t c0 ht
    have b1 := mod_lt' a (j := 65536) (by decide)
    generalize hx : leave (c0 :: r) _ = x
    have hlo : loC (c0 :: r).length (.lst (.int (a / 65536) :: (t.map .int ++ [.int 0]))) = true := lo_list fun x hx => by
      rcases List.mem_cons.mp hx with rfl | hx
      · rfl
      rcases List.mem_append.mp hx with hx | hx
      · obtain ⟨i, _, rfl⟩ := List.mem_map.mp hx
        rfl
      · cases List.mem_singleton.mp hx
        rfl
    have fin : ∀ z : Int, Res.ok (.int (z % m)) (.lst (.int (a / 65536) :: (t.map .int ++ [.int 0])) :: r) = x → ∃ i c', x = Res.ok (D.int i) (c' :: r) ∧ 0 ≤ i ∧ i < m ∧ Tn (n + 1) c' := fun z hx => by
      exact ⟨_, _, hx.symm, (mod_lt' _ hm).1, (mod_lt' _ hm).2, (a / 65536) :: (t ++ [0]), by simp, by simp; omega⟩
    by_cases hz : ns = []
    · subst hz
      simp (disch := first | assumption | omega | (simp only [List.length_cons, List.length_append, List.length_map, List.length_nil, List.length_set, List.length_replicate, rep_length, Nat.zero_add, Nat.mul_one]; omega) | (refine mul_ok ?_ ?_ <;> omega) | (refine cdiv_ok ?_ ?_ <;> omega) | (simp; done) | fail) [rest1] at hx
      exact fin _ hx
    · have hpos : 0 < ns.length := List.length_pos_iff.mpr hz
      have b0 := mod_lt' ((t.length : Int) + 1 + 1) (j := (ns.length : Int)) (by omega)
      have hlt : (((t.length : Int) + 1 + 1) % (ns.length : Int)).toNat < ns.length := by omega
      have hat : atI (ns.map D.int) (((t.length : Int) + 1 + 1) % (ns.length : Int)) = some (.int (ns[(((t.length : Int) + 1 + 1) % (ns.length : Int)).toNat]'hlt)) := by
        refine atI_pos b0.1 ?_
        rw [List.getElem?_map, List.getElem?_eq_getElem hlt]
        rfl
      simp (disch := first | assumption | omega | (simp only [List.length_cons, List.length_append, List.length_map, List.length_nil, List.length_set, List.length_replicate, rep_length, Nat.zero_add, Nat.mul_one]; omega) | (refine mul_ok ?_ ?_ <;> omega) | (refine cdiv_ok ?_ ?_ <;> omega) | (simp; done) | fail) [rest1, hz, hat] at hx
      exact fin _ hx
  cases t with
  | nil =>
    have hmax : maxO [.lst ((ns.map fun i => if i < 0 then -i else i) ++ [0] |>.map .int)] (Cell.lst [] :: r) = some (.int (maxI ((ns.map fun i => if i < 0 then -i else i) ++ [0]))) := max_ints (by simp)
    rw [List.map_append, List.map_map] at hmax
    obtain ⟨i, c', e, h⟩ := main (maxI ((ns.map fun i => if i < 0 then -i else i) ++ [0])) [] (.lst []) (by simp)
    refine ⟨i, c', ?_, h⟩
    rw [← e]
    have hmax : maxO [.lst ((ns.map fun i => D.int (if i < 0 then -i else i)) ++ [.int 0])] (Cell.lst [] :: r) = some (.int (maxI ((ns.map fun i => if i < 0 then -i else i) ++ [0]))) := hmax
    simp (disch := first | assumption | omega | (simp only [List.length_cons, List.length_append, List.length_map, List.length_nil, List.length_set, List.length_replicate, rep_length, Nat.zero_add, Nat.mul_one]; omega) | (refine mul_ok ?_ ?_ <;> omega) | (refine cdiv_ok ?_ ?_ <;> omega) | (simp; done) | fail) [f_l_draw_k01, b_l_draw_k01, habs, rest1, hmax]
  | cons a t =>
    obtain ⟨i, c', e, h⟩ := main a t (.lst (.int a :: t.map .int)) (by simp at ht; omega)
    refine ⟨i, c', ?_, h⟩
    rw [← e]
    simp (disch := first | assumption | omega) [f_l_draw_k01, b_l_draw_k01, habs, rest1]
theorem pick_ok {ns : List Int} {n : Nat} {c : Cell} {r : Store} {xs : List D} (hns : ns.length ≤ 63) (h : Tn n c) (hn : n ≤ 1000000) (hx : 0 < xs.length) (hlo : loL 0 xs = true) :
    ∃ d c', d ∈ xs ∧ f_l_pick [.scr ns, .ref 0, .lst xs] (c :: r) = .ok d (c' :: r) ∧ Tn (n + 1) c' := by
  obtain ⟨i, c', e, h0, h1, h2⟩ := draw_ok (r := r) (m := (xs.length : Int)) hns h hn (by omega)
  have hl : i.toNat < xs.length := by omega
  have hat : atI xs i = some xs[i.toNat] := atI_pos h0 (List.getElem?_eq_getElem hl)
  refine ⟨xs[i.toNat], c', List.getElem_mem hl, ?_, h2⟩
  simp (disch := first | assumption | omega | (simp only [List.length_cons, List.length_append, List.length_map, List.length_nil, List.length_set, List.length_replicate, rep_length, Nat.zero_add, Nat.mul_one]; omega) | (refine mul_ok ?_ ?_ <;> omega) | (refine cdiv_ok ?_ ?_ <;> omega) | (simp; done) | fail) [f_l_pick, b_l_pick, e, hat]
  exact leave_head1 (lo_mem hlo (List.getElem_mem hl)) h2.lo
/-! ### the same -/
mutual
/-- data that the law's comparison takes apart within k turns -/
def clean : Nat → D → Bool
  | 0, _ => false
  | k + 1, d => match d with
    | .tup xs => cleanL k xs && decide (xs.length ≤ 16777216)
    | .lst _ => false
    | .ref _ => false
    | .scr _ => false
    | .ltp _ => false
    | .non => true
    | .bl _ => true
    | .int _ => true
    | .str _ => true
def cleanL : Nat → List D → Bool
  | _, [] => true
  | k, x :: xs => clean k x && cleanL k xs
end
theorem cleanL_all {k : Nat} : ∀ {xs : List D}, cleanL k xs = true → ∀ x ∈ xs, clean k x = true
  | x :: xs, h, y, m => by
    unfold cleanL at h
    rw [Bool.and_eq_true] at h
    rcases List.mem_cons.mp m with rfl | m
    · exact h.1
    · exact cleanL_all h.2 y m
theorem pairs_self {xs : List D} : pairs xs xs = xs.map fun x => .ltp [x, x] := by
  unfold pairs
  induction xs with
  | nil => rfl
  | cons x xs ih =>
    rw [List.zip_cons_cons, List.map_cons, List.map_cons, ih]
theorem same_ok : ∀ (k : Nat) (d : D), clean k d = true → ∀ st, f_l_same k [d, d] st = .ok (.bl true) st
  | 0, d, h, _ => by unfold clean at h; cases h
  | k + 1, d, h, st => by
    cases d with
    | non => simp (disch := first | assumption | omega | (simp only [List.length_cons, List.length_append, List.length_map, List.length_nil, List.length_set, List.length_replicate, rep_length, Nat.zero_add, Nat.mul_one]; omega) | (refine mul_ok ?_ ?_ <;> omega) | (refine cdiv_ok ?_ ?_ <;> omega) | (simp; done) | fail) [f_l_same, b_l_same]
    | bl b => simp (disch := first | assumption | omega | (simp only [List.length_cons, List.length_append, List.length_map, List.length_nil, List.length_set, List.length_replicate, rep_length, Nat.zero_add, Nat.mul_one]; omega) | (refine mul_ok ?_ ?_ <;> omega) | (refine cdiv_ok ?_ ?_ <;> omega) | (simp; done) | fail) [f_l_same, b_l_same]
    | int b => simp (disch := first | assumption | omega | (simp only [List.length_cons, List.length_append, List.length_map, List.length_nil, List.length_set, List.length_replicate, rep_length, Nat.zero_add, Nat.mul_one]; omega) | (refine mul_ok ?_ ?_ <;> omega) | (refine cdiv_ok ?_ ?_ <;> omega) | (simp; done) | fail) [f_l_same, b_l_same]
    | str b => simp (disch := first | assumption | omega | (simp only [List.length_cons, List.length_append, List.length_map, List.length_nil, List.length_set, List.length_replicate, rep_length, Nat.zero_add, Nat.mul_one]; omega) | (refine mul_ok ?_ ?_ <;> omega) | (refine cdiv_ok ?_ ?_ <;> omega) | (simp; done) | fail) [f_l_same, b_l_same]
    | lst b => unfold clean at h; cases h
    | ref b => unfold clean at h; cases h
    | scr b => unfold clean at h; cases h
    | ltp b => unfold clean at h; cases h
    | tup xs =>
      unfold clean at h
      rw [Bool.and_eq_true] at h
      obtain ⟨h1, h2⟩ := h
      have h2 := of_decide_eq_true h2
      have hc : l_same_c1 (f_l_same k) [some (.tup xs), some (.tup xs), none, none] st = .ok (.lst (xs.map fun _ => .bl true)) st := by
        unfold l_same_c1
        rw [ap_comp]
        simp (disch := first | assumption | omega | (simp only [List.length_cons, List.length_append, List.length_map, List.length_nil, List.length_set, List.length_replicate, rep_length, Nat.zero_add, Nat.mul_one]; omega) | (refine mul_ok ?_ ?_ <;> omega) | (refine cdiv_ok ?_ ?_ <;> omega) | (simp; done) | fail) [pairs_self]
        have := comp_map (tg := tupT (consT (nmT 2) (consT (nmT 3) nilT))) (elt := callE 2 (f_l_same k) (consL (varE 2) (consL (varE 3) nilL))) (ρw := [some (.tup xs), some (.tup xs), none, none]) (s0 := st) (l := xs.map fun x => .ltp [x, x]) (fun _ => .bl true) (fun x hx s1 => by
          obtain ⟨y, hy, rfl⟩ := List.mem_map.mp hx
          exact ⟨_, rfl, by simp (disch := first | assumption | omega | (simp only [List.length_cons, List.length_append, List.length_map, List.length_nil, List.length_set, List.length_replicate, rep_length, Nat.zero_add, Nat.mul_one]; omega) | (refine mul_ok ?_ ?_ <;> omega) | (refine cdiv_ok ?_ ?_ <;> omega) | (simp; done) | fail) [same_ok k y (cleanL_all h1 y hy)]⟩) (lo_list fun x hx => by
            obtain ⟨y, hy, rfl⟩ := List.mem_map.mp hx
            rfl) (by simpa using h2)
        rw [this, List.map_map]
        rfl
      have hall : allO [.lst (xs.map fun _ => D.bl true)] st = some (.bl true) := by
        have := bls_of (xs.map fun _ => true)
        rw [List.map_map] at this
        rw [all_lst, show (xs.map fun _ => D.bl true) = xs.map (D.bl ∘ fun _ => true) from rfl, this]
        simp
      simp (disch := first | assumption | omega | (simp only [List.length_cons, List.length_append, List.length_map, List.length_nil, List.length_set, List.length_replicate, rep_length, Nat.zero_add, Nat.mul_one]; omega) | (refine mul_ok ?_ ?_ <;> omega) | (refine cdiv_ok ?_ ?_ <;> omega) | (simp; done) | fail) [f_l_same, b_l_same, hc, hall]
end DL

namespace DL
open PySem PySem.Spec PyProof.Rows L2

def l_mixed_b1 : DenS :=
  exprS (mdE appO (varE 4) (consL (mdE popAtO (varE 3) (consL (callE 3 f_l_draw_k01 (consL (varE 0) (consL (varE 1) (consL (opL lenO (consL (varE 3) (nilL))) (nilL))))) (nilL))) (nilL)))
def l_mixed_t1 : DenB :=
  tru (varE 3)
def l_mixed_l1 : DenS :=
  whileS (l_mixed_t1) (l_mixed_b1) []
def b_l_mixed : DenS :=
  seqS (parS2 3 4 (consL (newListE (consL (varE 2) (nilL))) (consL (newE (nilL)) (nilL)))) (seqS (l_mixed_l1) (retS (varE 4)))
def f_l_mixed : Fn := defG 5 3 b_l_mixed
def l_all_cards_c1 : Den :=
  compE (rng2E (conE (.int 1)) (op2 addD (varE 0) (conE (.int 1)))) (nmT 3) (yesB) (tupE (consL (varE 2) (consL (varE 3) (nilL)))) [3]
def l_all_cards_b1 : DenS :=
  exprS (mdE extO (varE 1) (consL (l_all_cards_c1) (nilL)))
def l_all_cards_l1 : DenS :=
  forS (rng1E (conE (.int 4))) (nmT 2) (l_all_cards_b1) [2]
def b_l_all_cards : DenS :=
  seqS (asgS 1 (newE (nilL))) (seqS (l_all_cards_l1) (retS (varE 1)))
def f_l_all_cards : Fn := defG 4 1 b_l_all_cards
def l_drawn_deal_c1 : Den :=
  compE (rng1E (conE (.int 4))) (nmT 4) (yesB) (opL tupleO (consL (opL sortedO (consL (slE (varE 3) (soO (op2 mulD (varE 4) (varE 2))) (soO (op2 addD (op2 mulD (varE 4) (varE 2)) (varE 2)))) (nilL))) (nilL))) [4]
def b_l_drawn_deal : DenS :=
  seqS (asgS 3 (callE 3 f_l_mixed (consL (varE 0) (consL (varE 1) (consL (callE 1 f_l_all_cards (consL (varE 2) (nilL))) (nilL)))))) (retS (opL tupleO (consL (l_drawn_deal_c1) (nilL))))
def f_l_drawn_deal : Fn := defG 5 3 b_l_drawn_deal

/-! ### while -/
theorem while_down {c : DenB} {b : DenS} {ks : List Nat} (P : Nat → Env → Store → Prop) (h0 : ∀ ρ st, P 0 ρ st → c ρ st = .ok false st)
    (hs : ∀ n ρ st, P (n + 1) ρ st → c ρ st = .ok true st ∧ ∃ ρ2 s2, P n ρ2 s2 ∧ ∀ k, turnO ks (b ρ st) k = k ρ2 s2) : ∀ n fuel ρ st, n < fuel → P n ρ st → ∃ ρ' s', P 0 ρ' s' ∧ whileGo c b ks fuel ρ st = .next ρ' s'
  | n, 0, _, _, h, _ => absurd h (Nat.not_lt_zero n)
  | 0, f + 1, ρ, st, _, p => ⟨ρ, st, p, by
    unfold whileGo
    rw [h0 ρ st p]
    rfl⟩
  | n + 1, f + 1, ρ, st, h, p => by
    obtain ⟨e1, ρ2, s2, p2, e2⟩ := hs n ρ st p
    obtain ⟨ρ', s', p', e3⟩ := while_down P h0 hs n f ρ2 s2 (Nat.lt_of_succ_lt_succ h) p2
    refine ⟨ρ', s', p', ?_⟩
    unfold whileGo
    rw [e1, then_ok, if_pos rfl, e2, e3]
/-! ### cards -/
abbrev Card : Type := Int × Int
def cD (c : Card) : D := .tup [.int c.1, .int c.2]
def cle (a b : Card) : Bool := decide (a.1 < b.1) || (decide (a.1 = b.1) && decide (a.2 ≤ b.2))
@[simp] theorem lo_cD {n : Nat} {c : Card} : lo n (cD c) = true := Eq.trans rfl rfl
theorem lo_cDs {n : Nat} {cs : List Card} : loL n (cs.map cD) = true := lo_list fun x hx => by
  obtain ⟨c, _, rfl⟩ := List.mem_map.mp hx
  exact lo_cD
theorem le_cD (a b : Card) : PySem.W.dataLe false toPy (cD a) (cD b) = cle a b := by
  show (!PyProof.Rows.lexLt itemOrd (PySem.W.keyToks (toPy (cD b))) (PySem.W.keyToks (toPy (cD a)))) = _
  have e : ∀ c : Card, PySem.W.keyToks (toPy (cD c)) = [.inl 1, .inl c.1, .inl 1, .inl c.2, .inl 0] := fun c => rfl
  rw [e, e]
  unfold cle
  simp only [PyProof.Rows.lexLt, itemLt]
  by_cases h1 : b.1 < a.1
  · have : ¬ a.1 < b.1 := by omega
    have : ¬ a.1 = b.1 := by omega
    simp [*]
  · by_cases h2 : a.1 < b.1
    · simp [h1, h2]
    · have h3 : a.1 = b.1 := by omega
      have h4 : (!decide (b.2 < a.2)) = decide (a.2 ≤ b.2) := by
        by_cases h : a.2 ≤ b.2
        · have : ¬ b.2 < a.2 := by omega
          simp [*]
        · have : b.2 < a.2 := by omega
          simp [*]
      by_cases h5 : a.2 ≤ b.2
      · have : ¬ b.2 < a.2 := by omega
        simp [h3, h5, this]
      · have : b.2 < a.2 := by omega
        simp [h3, h5, this]
def sortC (cs : List Card) : List Card := cs.mergeSort cle
theorem sort_cD (cs : List Card) : sortL (cs.map cD) = (sortC cs).map cD := (List.map_mergeSort fun a _ b _ => (le_cD a b).symm).symm
theorem sortOk_cD (cs : List Card) : sortOk (cs.map cD) = true := by
  unfold sortOk
  rw [Bool.and_eq_true, Bool.and_eq_true]
  refine ⟨List.all_eq_true.mpr fun a ha => List.all_eq_true.mpr fun b hb => ?_, List.all_eq_true.mpr fun a ha => ?_, Bool.or_eq_true_iff.mpr (.inl (List.all_eq_true.mpr fun a ha => ?_))⟩
  · obtain ⟨c, _, rfl⟩ := List.mem_map.mp ha
    obtain ⟨d, _, rfl⟩ := List.mem_map.mp hb
    rfl
  · obtain ⟨c, _, rfl⟩ := List.mem_map.mp ha
    rfl
  · obtain ⟨c, _, rfl⟩ := List.mem_map.mp ha
    rfl
@[simp] theorem sorted_cD {cs : List Card} {st : Store} : sortedO [.lst (cs.map cD)] st = some (.lst ((sortC cs).map cD)) := by
  show (if sortOk (cs.map cD) then some (D.lst (sortL (cs.map cD))) else none) = _
  rw [if_pos (sortOk_cD cs), sort_cD]
/-! ### mixed -/
theorem perm_out {A : Type} : ∀ {l : List A} {i : Nat} (h : i < l.length), (l[i] :: l.eraseIdx i).Perm l
  | x :: l, 0, _ => List.Perm.refl _
  | x :: l, i + 1, h => by
    have h' : i < l.length := by simpa using h
    show (l[i] :: x :: l.eraseIdx i).Perm (x :: l)
    exact (List.Perm.swap x _ _).trans ((perm_out h').cons x)
theorem mixed_ok {ns : List Int} {n : Nat} {c : Cell} {r : Store} {xs : List D} (hns : ns.length ≤ 63) (h : Tn n c) (hn : n + xs.length ≤ 900000) (hlo : loL 0 xs = true) :
    ∃ ys c', ys.Perm xs ∧ f_l_mixed [.scr ns, .ref 0, .lst xs] (c :: r) = .ok (.lst ys) (c' :: r) ∧ Tn (n + xs.length) c' := by
  obtain ⟨ρ', st', ⟨c', rest, found, rfl, rfl, hl, hp, ht⟩, e⟩ := while_down (c := l_mixed_t1) (b := l_mixed_b1) (ks := [])
    (fun m ρ st => ∃ c' rest found, ρ = [some (.scr ns), some (.ref 0), some (.lst xs), some (.ref (r.length + 1)), some (.ref (r.length + 1 + 1))] ∧ st = c' :: (r ++ [.lst rest, .lst found]) ∧ rest.length = m ∧ (found ++ rest).Perm xs ∧ Tn (n + (xs.length - m)) c')
    (fun ρ st ⟨c', rest, found, e1, e2, hl, hp, ht⟩ => by
      subst e1 e2
      have : rest = [] := List.length_eq_zero_iff.mp hl
      subst this
      simp (disch := first | assumption | omega | (simp only [List.length_cons, List.length_append, List.length_map, List.length_nil, List.length_set, List.length_replicate, rep_length, Nat.zero_add, Nat.mul_one]; omega) | (refine mul_ok ?_ ?_ <;> omega) | (refine cdiv_ok ?_ ?_ <;> omega) | (simp; done) | fail) [l_mixed_t1])
    (fun m ρ st ⟨c', rest, found, e1, e2, hl, hp, ht⟩ => by
      subst e1 e2
      have hne : rest ≠ [] := fun z => by rw [z] at hl; cases hl
      have hle : found.length + rest.length = xs.length := by rw [← List.length_append]; exact hp.length_eq
      obtain ⟨i, c2, d2, i0, i1, t2⟩ := draw_ok (r := r ++ [.lst rest, .lst found]) (m := (rest.length : Int)) hns ht (by omega) (by omega)
      have hi : i.toNat < rest.length := by omega
      refine ⟨by simp (disch := first | assumption | omega | (simp only [List.length_cons, List.length_append, List.length_map, List.length_nil, List.length_set, List.length_replicate, rep_length, Nat.zero_add, Nat.mul_one]; omega) | (refine mul_ok ?_ ?_ <;> omega) | (refine cdiv_ok ?_ ?_ <;> omega) | (simp; done) | fail) [l_mixed_t1, hne], [some (.scr ns), some (.ref 0), some (.lst xs), some (.ref (r.length + 1)), some (.ref (r.length + 1 + 1))], c2 :: (r ++ [.lst (rest.eraseIdx i.toNat), .lst (found ++ [rest[i.toNat]])]), ⟨c2, _, _, rfl, rfl, ?_, ?_, t2.mono (by omega)⟩, fun k => ?_⟩
      · rw [List.length_eraseIdx_of_lt hi]; omega
      · refine List.Perm.trans ?_ hp
        rw [List.append_assoc]
        exact List.Perm.append_left _ (perm_out hi)
      · simp (disch := first | assumption | omega | (simp only [List.length_cons, List.length_append, List.length_map, List.length_nil, List.length_set, List.length_replicate, rep_length, Nat.zero_add, Nat.mul_one]; omega) | (refine mul_ok ?_ ?_ <;> omega) | (refine cdiv_ok ?_ ?_ <;> omega) | (simp; done) | fail) [l_mixed_b1, d2])
    xs.length fuelW [some (.scr ns), some (.ref 0), some (.lst xs), some (.ref (r.length + 1)), some (.ref (r.length + 1 + 1))] (c :: (r ++ [.lst xs, .lst []])) (by unfold fuelW; omega) ⟨c, xs, [], rfl, rfl, rfl, by simp, by simpa using h⟩
  have : rest = [] := List.length_eq_zero_iff.mp hl
  subst this
  rw [List.append_nil] at hp
  refine ⟨found, c', hp, ?_, by simpa using ht⟩
  have hlf : loL (r.length + 1) found = true := lo_list fun x hx => lo_mem hlo (hp.mem_iff.mp hx)
  simp (disch := first | assumption | omega | (simp only [List.length_cons, List.length_append, List.length_map, List.length_nil, List.length_set, List.length_replicate, rep_length, Nat.zero_add, Nat.mul_one]; omega) | (refine mul_ok ?_ ?_ <;> omega) | (refine cdiv_ok ?_ ?_ <;> omega) | (simp; done) | fail) [f_l_mixed, b_l_mixed, l_mixed_l1, ap_while, e]
  exact leave_headL (by omega) (by simp) hlf ht.lo
/-! ### all cards, a drawn deal -/
def suitC (r : Nat) (s : Nat) : List Card := (List.range r).map fun (k : Nat) => ((s : Int), 1 + (k : Int))
def allC (r : Nat) : List Card := (List.range 4).flatMap (suitC r)
theorem suitC_length (r s : Nat) : (suitC r s).length = r := by simp [suitC]
theorem allC_length (r : Nat) : (allC r).length = 4 * r := by
  simp [allC, List.range_succ, suitC_length]
  omega
theorem flat_succ (r m : Nat) : (List.range (m + 1)).flatMap (suitC r) = (List.range m).flatMap (suitC r) ++ suitC r m := by
  rw [List.range_succ, List.flatMap_append]
  simp
theorem flat_length (r m : Nat) : ((List.range m).flatMap (suitC r)).length = m * r := by
  induction m with
  | zero => simp
  | succ m ih => rw [flat_succ, List.length_append, ih, suitC_length, Nat.add_mul, Nat.one_mul]
theorem all_cards_ok {r : Int} (st : Store) (h : 0 ≤ r ∧ r ≤ 1000) : f_l_all_cards [.int r] st = .ok (.lst ((allC r.toNat).map cD)) st := by
  have hc : ∀ (s : Nat) (q : Store), l_all_cards_c1 [some (.int r), some (.ref st.length), some (.int s), none] q = .ok (.lst ((suitC r.toNat s).map cD)) q := fun s q => by
    have := comp_map (tg := nmT 3) (elt := tupE (consL (varE 2) (consL (varE 3) (nilL)))) (ρw := [some (.int r), some (.ref st.length), some (.int s), none]) (s0 := q) (l := rangeD 1 r.toNat) (fun d => .tup [.int s, d]) (fun x hx s1 => ⟨_, rfl, by simp (disch := first | assumption | omega | (simp only [List.length_cons, List.length_append, List.length_map, List.length_nil, List.length_set, List.length_replicate, rep_length, Nat.zero_add, Nat.mul_one]; omega) | (refine mul_ok ?_ ?_ <;> omega) | (refine cdiv_ok ?_ ?_ <;> omega) | (simp; done) | fail)⟩) (lo_list fun x hx => by
      obtain ⟨y, hy, rfl⟩ := List.mem_map.mp hx
      unfold rangeD at hy
      obtain ⟨i, _, rfl⟩ := List.mem_map.mp hy
      rfl) (by simp; omega)
    unfold l_all_cards_c1
    rw [ap_comp]
    simp (disch := first | assumption | omega | (simp only [List.length_cons, List.length_append, List.length_map, List.length_nil, List.length_set, List.length_replicate, rep_length, Nat.zero_add, Nat.mul_one]; omega) | (refine mul_ok ?_ ?_ <;> omega) | (refine cdiv_ok ?_ ?_ <;> omega) | (simp; done) | fail)
    rw [this]
    unfold rangeD suitC
    rw [List.map_map, List.map_map]
    rfl
  obtain ⟨ρ', st', ⟨e1, e2⟩, e⟩ := for_pure (tg := nmT 2) (ks := [2]) (ρ := [some (.int r), some (.ref st.length), none, none]) (st := st ++ [.lst []]) (body := l_all_cards_b1) (l := rangeD 0 4)
    (fun i ρ s => ρ = [some (.int r), some (.ref st.length), none, none] ∧ s = st ++ [.lst (((List.range i).flatMap (suitC r.toNat)).map cD)]) ⟨rfl, rfl⟩ (fun i x ρ s hx ⟨e1, e2⟩ => by
      obtain ⟨hi, rfl⟩ := range_at hx
      subst e1 e2
      refine ⟨_, _, ⟨rfl, rfl⟩, fun k => ?_⟩
      have l1 := flat_length r.toNat i
      have l2 := suitC_length r.toNat i
      have l3 : i * r.toNat ≤ 4 * 1000 := Nat.mul_le_mul (by omega) (by omega)
      have hc := hc i
      rw [show (0 : Int) + (i : Int) = (i : Int) by omega]
      simp (disch := first | assumption | omega | (simp only [List.length_cons, List.length_append, List.length_map, List.length_nil, List.length_set, List.length_replicate, rep_length, Nat.zero_add, Nat.mul_one]; omega) | (refine mul_ok ?_ ?_ <;> omega) | (refine cdiv_ok ?_ ?_ <;> omega) | (simp; done) | fail) [l_all_cards_b1, hc, flat_succ, List.map_append, l1, l2])
  subst e1 e2
  simp (disch := first | assumption | omega | (simp only [List.length_cons, List.length_append, List.length_map, List.length_nil, List.length_set, List.length_replicate, rep_length, Nat.zero_add, Nat.mul_one]; omega) | (refine mul_ok ?_ ?_ <;> omega) | (refine cdiv_ok ?_ ?_ <;> omega) | (simp; done) | fail) [f_l_all_cards, b_l_all_cards, l_all_cards_l1, ap_for, e]
  exact leave_new lo_cDs
theorem perm_map {A B : Type} {f : A → B} : ∀ {l : List A} {ys : List B}, ys.Perm (l.map f) → ∃ zs : List A, ys = zs.map f ∧ zs.Perm l
  | [], ys, h => ⟨[], by simpa using h, .refl _⟩
  | x :: l, ys, h => by
    have hm : f x ∈ ys := h.mem_iff.mpr (by simp)
    obtain ⟨a, b, rfl⟩ := List.append_of_mem hm
    have h2 : (a ++ b).Perm (l.map f) := List.Perm.cons_inv (a := f x) (List.perm_middle.symm.trans h)
    obtain ⟨zs, e, p⟩ := perm_map h2
    obtain ⟨z1, z2, rfl, e1, e2⟩ := List.append_eq_map_iff.mp e
    exact ⟨z1 ++ x :: z2, by rw [List.map_append, List.map_cons, e1, e2], List.perm_middle.trans (p.cons x)⟩
def handsOf (r : Nat) (cs : List Card) : List (List Card) := (List.range 4).map fun a => sortC ((cs.drop (a * r)).take r)
def handD (h : List Card) : D := .tup (h.map cD)
def dealD (d : List (List Card)) : D := .tup (d.map handD)
theorem deal_item {r : Int} {cs : List Card} {ρ : Env} {st : Store} {i : Nat} (hi4 : i < 4) (hr : 0 ≤ r ∧ r ≤ 1000) (h2 : ρ[2]? = some (some (.int r))) (h3 : ρ[3]? = some (some (.lst (cs.map cD)))) (h4 : ρ[4]? = some (some (.int (0 + (i : Int))))) :
    opL tupleO (consL (opL sortedO (consL (slE (varE 3) (soO (op2 mulD (varE 4) (varE 2))) (soO (op2 addD (op2 mulD (varE 4) (varE 2)) (varE 2)))) (nilL))) (nilL)) ρ st = .ok (handD (sortC ((cs.drop (i * r.toNat)).take r.toNat))) st := by
  rw [Int.zero_add] at h4
  have hm : 0 ≤ (i : Int) * r ∧ (i : Int) * r ≤ 4 * 1000 := ⟨Int.mul_nonneg (by omega) hr.1, Int.mul_le_mul (by omega) hr.2 hr.1 (by decide)⟩
  have e2 : ((i : Int) * r).toNat = i * r.toNat := by
    rw [Int.toNat_mul (by omega) hr.1]
    simp
  have e3 : ((i : Int) * r + r).toNat - i * r.toNat = r.toNat := by omega
  generalize hp : (i : Int) * r = p at hm e2 e3
  have hmul : mulD (.int (i : Int)) (.int r) st = some (.int p) := by
    rw [← hp]
    exact mul_int (mul_ok (by omega) (by omega))
  simp only [ap_opL, ap_cons, ap_nil, ap_sl, ap_soO, ap_op2, ap_var, h2, h3, h4, atE_some, bind_ok', of_some, hmul, add_int, optI_int, sl_lst]
  rw [cut_part (by omega), e2, e3, ← List.map_drop, ← List.map_take]
  simp only [of_some, bind_ok', sorted_cD, tuple_lst]
  rfl
theorem deal_comp {r : Int} {cs : List Card} {a b : Option D} {st : Store} (hr : 0 ≤ r ∧ r ≤ 1000) : l_drawn_deal_c1 [a, b, some (.int r), some (.lst (cs.map cD)), none] st = .ok (.lst ((handsOf r.toNat cs).map handD)) st := by
  have := comp_map (tg := nmT 4) (elt := opL tupleO (consL (opL sortedO (consL (slE (varE 3) (soO (op2 mulD (varE 4) (varE 2))) (soO (op2 addD (op2 mulD (varE 4) (varE 2)) (varE 2)))) (nilL))) (nilL))) (ρw := [a, b, some (.int r), some (.lst (cs.map cD)), none]) (s0 := st) (l := rangeD 0 4)
    (fun d => match d with | .int i => handD (sortC ((cs.drop (i.toNat * r.toNat)).take r.toNat)) | _ => .non) (fun x hx s1 => by
      unfold rangeD at hx
      obtain ⟨i, hi, rfl⟩ := List.mem_map.mp hx
      refine ⟨_, rfl, (deal_item (by simpa using hi) hr rfl rfl rfl).trans ?_⟩
      show _ = Res.ok (handD (sortC ((cs.drop ((0 + (i : Int)).toNat * r.toNat)).take r.toNat))) _
      rw [Int.zero_add, Int.toNat_natCast]) (lo_list fun x hx => by
      obtain ⟨y, hy, rfl⟩ := List.mem_map.mp hx
      unfold rangeD at hy
      obtain ⟨i, _, rfl⟩ := List.mem_map.mp hy
      exact lo_cDs) (by rw [range_length, size_line]; omega)
  unfold l_drawn_deal_c1
  rw [ap_comp]
  simp only [ap_rng1, ap_con, bind_ok']
  rw [rng1_int (by omega)]
  refine this.trans ?_
  unfold rangeD handsOf
  rw [List.map_map, List.map_map]
  rfl
theorem deal_ok {ns : List Int} {n : Nat} {c : Cell} {q : Store} {r : Int} (hns : ns.length ≤ 63) (h : Tn n c) (hn : n ≤ 500000) (hr : 0 ≤ r ∧ r ≤ 1000) :
    ∃ cs c', cs.Perm (allC r.toNat) ∧ f_l_drawn_deal [.scr ns, .ref 0, .int r] (c :: q) = .ok (dealD (handsOf r.toNat cs)) (c' :: q) ∧ Tn (n + 4 * r.toNat) c' := by
  obtain ⟨ys, c', hp, e, ht⟩ := mixed_ok (r := q) (xs := (allC r.toNat).map cD) hns h (by rw [List.length_map, allC_length]; omega) lo_cDs
  obtain ⟨cs, rfl, hcs⟩ := perm_map hp
  refine ⟨cs, c', hcs, ?_, ht.mono (by rw [List.length_map, allC_length]; omega)⟩
  have hall := all_cards_ok (c :: q) hr
  have hcomp := deal_comp (a := some (.scr ns)) (b := some (.ref 0)) (cs := cs) (st := c' :: q) hr
  have hlo : lo (c :: q).length (dealD (handsOf r.toNat cs)) = true := lo_list fun x hx => by
    obtain ⟨y, _, rfl⟩ := List.mem_map.mp hx
    exact lo_cDs
  simp (disch := first | assumption | omega | (simp only [List.length_cons, List.length_append, List.length_map, List.length_nil, List.length_set, List.length_replicate, rep_length, Nat.zero_add, Nat.mul_one]; omega) | (refine mul_ok ?_ ?_ <;> omega) | (refine cdiv_ok ?_ ?_ <;> omega) | (simp; done) | fail) [f_l_drawn_deal, b_l_drawn_deal, hall, e, hcomp]
  exact leave_head1 hlo ht.lo
end DL

namespace DL
open PySem PySem.Spec PyProof.Rows L2

/-! ### rows of ints -/
theorem fit_ints {n : Nat} : ∀ {xs : List Int}, fitsL (xs.map D.int) (n + 1) = true
  | [] => rfl
  | x :: xs => by
    show (fits (.int x) (n + 1) && fitsL (xs.map D.int) (n + 1)) = true
    rw [fit_ints]
    rfl
theorem eqv_ints {a b : Int} : D.eqv (.int a) (.int b) = decide (a = b) := rfl
theorem countP_ints {s : Int} : ∀ {xs : List Int}, ((xs.map D.int).countP fun y => D.eqv y (.int s)) = xs.count s
  | [] => rfl
  | x :: xs => by
    rw [List.map_cons, List.countP_cons, countP_ints, eqv_ints, List.count_cons]
    simp
theorem countO_ints {s : Int} {xs : List Int} : countO (xs.map D.int) [.int s] = some (.int (xs.count s : Nat)) := by
  show (if (fits (D.int s) 60 && fitsL (xs.map D.int) 60) = true then some (D.int (((xs.map D.int).countP fun y => D.eqv y (.int s) : Nat))) else none) = _
  rw [fit_ints, countP_ints]
  rfl
theorem count_lstI {s : Int} {xs : List Int} {st : Store} : mcR countO (.lst (xs.map D.int)) [.int s] st = some (.int (xs.count s : Nat)) := countO_ints
theorem count_tupI {s : Int} {xs : List Int} {st : Store} : mcR countO (.tup (xs.map D.int)) [.int s] st = some (.int (xs.count s : Nat)) := countO_ints
@[simp] theorem ap_mcI (o : MC) (f : Den) (g : DenL) (ρ : Env) (st : Store) : mcE o f g ρ st = (f ρ st).bind fun x s => guardR ((view s x).isSome = true) ((g ρ s).bind fun ds s2 => Res.of (mcR o x ds s2) s2) := Eq.trans rfl rfl
theorem le_ints (a b : Int) : PySem.W.dataLe false toPy (.int a) (.int b) = decide (a ≤ b) := by
  show (!PyProof.Rows.lexLt itemOrd (PySem.W.keyToks (toPy (.int b))) (PySem.W.keyToks (toPy (.int a)))) = _
  have e : ∀ c : Int, PySem.W.keyToks (toPy (.int c)) = [.inl c] := fun c => rfl
  rw [e, e]
  simp only [PyProof.Rows.lexLt, itemLt]
  by_cases h : a ≤ b
  · have : ¬ b < a := by omega
    simp [h, this]
  · have : b < a := by omega
    simp [h, this]
theorem ge_ints (a b : Int) : PySem.W.dataLe true toPy (.int a) (.int b) = decide (b ≤ a) := by
  show (!PyProof.Rows.lexLt itemOrd (PySem.W.keyToks (toPy (.int a))) (PySem.W.keyToks (toPy (.int b)))) = _
  have e : ∀ c : Int, PySem.W.keyToks (toPy (.int c)) = [.inl c] := fun c => rfl
  rw [e, e]
  simp only [PyProof.Rows.lexLt, itemLt]
  by_cases h : b ≤ a
  · have : ¬ a < b := by omega
    simp [h, this]
  · have : a < b := by omega
    simp [h, this]
def sortI (xs : List Int) : List Int := xs.mergeSort fun a b => decide (a ≤ b)
def sortJ (xs : List Int) : List Int := xs.mergeSort fun a b => decide (b ≤ a)
theorem sortOk_ints (xs : List Int) : sortOk (xs.map D.int) = true := by
  unfold sortOk
  rw [Bool.and_eq_true, Bool.and_eq_true]
  refine ⟨List.all_eq_true.mpr fun a ha => List.all_eq_true.mpr fun b hb => ?_, List.all_eq_true.mpr fun a ha => ?_, Bool.or_eq_true_iff.mpr (.inr (List.all_eq_true.mpr fun a ha => ?_))⟩
  · obtain ⟨c, _, rfl⟩ := List.mem_map.mp ha
    obtain ⟨d, _, rfl⟩ := List.mem_map.mp hb
    rfl
  · obtain ⟨c, _, rfl⟩ := List.mem_map.mp ha
    rfl
  · obtain ⟨c, _, rfl⟩ := List.mem_map.mp ha
    rfl
theorem sorted_tupI {xs : List Int} {st : Store} : sortedO [.tup (xs.map D.int)] st = some (.lst ((sortI xs).map D.int)) := by
  show (if sortOk (xs.map D.int) then some (D.lst (sortL (xs.map D.int))) else none) = _
  rw [if_pos (sortOk_ints xs)]
  unfold sortL sortI
  rw [List.map_mergeSort fun a _ b _ => (le_ints a b).symm]
theorem sorted_lstI {xs : List Int} {st : Store} : sortedO [.lst (xs.map D.int)] st = some (.lst ((sortI xs).map D.int)) := by
  show (if sortOk (xs.map D.int) then some (D.lst (sortL (xs.map D.int))) else none) = _
  rw [if_pos (sortOk_ints xs)]
  unfold sortL sortI
  rw [List.map_mergeSort fun a _ b _ => (le_ints a b).symm]
theorem sortedRev_tupI {xs : List Int} {st : Store} : sortedRevO [.tup (xs.map D.int)] st = some (.lst ((sortJ xs).map D.int)) := by
  show (if sortOk (xs.map D.int) then some (D.lst (sortRevL (xs.map D.int))) else none) = _
  rw [if_pos (sortOk_ints xs)]
  unfold sortRevL sortJ
  rw [List.map_mergeSort fun a _ b _ => (ge_ints a b).symm]
theorem sortI_perm (xs : List Int) : (sortI xs).Perm xs := List.mergeSort_perm ..
theorem sortJ_perm (xs : List Int) : (sortJ xs).Perm xs := List.mergeSort_perm ..
theorem sortI_sorted (xs : List Int) : (sortI xs).Pairwise (· ≤ ·) := by
  have := List.pairwise_mergeSort (le := fun a b : Int => decide (a ≤ b)) (fun a b c h1 h2 => by simp at *; omega) (fun a b => by simp; omega) xs
  exact this.imp fun h => by simpa using h
theorem sortJ_sorted (xs : List Int) : (sortJ xs).Pairwise (· ≥ ·) := by
  have := List.pairwise_mergeSort (le := fun a b : Int => decide (b ≤ a)) (fun a b c h1 h2 => by simp at *; omega) (fun a b => by simp; omega) xs
  exact this.imp fun h => by simpa using h
/-- rows in order of the same things are the same -/
theorem sorted_uniq : ∀ {xs ys : List Int}, xs.Perm ys → xs.Pairwise (· ≥ ·) → ys.Pairwise (· ≥ ·) → xs = ys
  | [], ys, p, _, _ => by rw [List.nil_perm.mp p]
  | x :: xs, [], p, _, _ => by have := p.length_eq; simp at this
  | x :: xs, y :: ys, p, h1, h2 => by
    have e : x = y := by
      have m1 : x ∈ y :: ys := p.mem_iff.mp (by simp)
      have m2 : y ∈ x :: xs := p.mem_iff.mpr (by simp)
      rcases List.mem_cons.mp m1 with z | z
      · exact z
      rcases List.mem_cons.mp m2 with w | w
      · exact w.symm
      have a1 := (List.pairwise_cons.mp h1).1 y w
      have a2 := (List.pairwise_cons.mp h2).1 x z
      omega
    subst e
    rw [sorted_uniq ((List.perm_cons x).mp p) (List.pairwise_cons.mp h1).2 (List.pairwise_cons.mp h2).2]
theorem rev_sort (xs : List Int) : (sortI xs).reverse = sortJ xs := by
  refine sorted_uniq ((List.reverse_perm _).trans ((sortI_perm xs).trans (sortJ_perm xs).symm)) ?_ (sortJ_sorted xs)
  rw [List.pairwise_reverse]
  exact (sortI_sorted xs).imp fun h => h
end DL

namespace DL
open PySem PySem.Spec PyProof.Rows L2
/-! ### comprehensions over a row of things -/
section
variable {A : Type} {it : ItD} {tg : Tgt} {tt : DenB} {elt : Den} {ρw : Env} {s0 : Store} {enc : A → D}
theorem comp_goA (f : A → Option D) (hsrc : it.src = none) : ∀ (l : List A) (acc : List D), (∀ x ∈ l, ∀ s1, turnC tg tt elt ρw (s0 ++ [s1]) (enc x) (f x)) → loL s0.length (acc ++ l.filterMap f) = true → acc.length + l.length ≤ sizeLine →
    compGo it tg tt elt ρw s0 (l.map enc) acc (s0 ++ [.lst acc]) = .ok (.lst (acc ++ l.filterMap f)) s0
  | [], acc, _, hl, _ => by
    show compGo it tg tt elt ρw s0 [] acc (s0 ++ [.lst acc]) = _
    unfold compGo
    have hs : it.still (s0 ++ [.lst acc]) := by unfold ItD.still; rw [hsrc]; trivial
    rw [guardR_pos ⟨hs, by simp, by rw [List.getElem?_append_right (Nat.le_refl _)]; simp⟩]
    rw [List.filterMap_nil, List.append_nil] at hl ⊢
    exact cutR_app hl
  | x :: l, acc, h, hl, hsz => by
    show compGo it tg tt elt ρw s0 (enc x :: l.map enc) acc (s0 ++ [.lst acc]) = _
    unfold compGo
    have hs : it.still (s0 ++ [.lst acc]) := by unfold ItD.still; rw [hsrc]; trivial
    rw [guardR_pos hs]
    obtain ⟨ρ', e1, e2⟩ := h x (by simp) (.lst acc)
    rw [e1]
    cases hf : f x with
    | none =>
      rw [hf] at e2
      have e2 : tt ρ' (s0 ++ [.lst acc]) = .ok false (s0 ++ [.lst acc]) := e2
      simp only [tgtR_some, e2, noX_ok, bind_ok']
      rw [if_neg (by decide), guardR_pos (by simp)]
      have := comp_goA f hsrc l acc (fun y hy => h y (by simp [hy])) (by simpa [hf] using hl) (by simp only [List.length_cons] at hsz; omega)
      rw [this]
      simp [hf]
    | some d =>
      rw [hf] at e2
      obtain ⟨e2, e3⟩ := (show tt ρ' (s0 ++ [.lst acc]) = .ok true (s0 ++ [.lst acc]) ∧ elt ρ' (s0 ++ [.lst acc]) = .ok d (s0 ++ [.lst acc]) from e2)
      simp only [tgtR_some, e2, e3, noX_ok, bind_ok']
      rw [if_pos trivial, guardR_pos ⟨by simp, by rw [List.getElem?_append_right (Nat.le_refl _)]; simp, by simp only [List.length_cons] at hsz; omega⟩]
      rw [show (s0 ++ [Cell.lst acc]).set s0.length (.lst (acc ++ [d])) = s0 ++ [.lst (acc ++ [d])] by rw [List.set_append_right _ _ (Nat.le_refl _)]; simp]
      have e4 : acc ++ [d] ++ l.filterMap f = acc ++ (x :: l).filterMap f := by simp [hf]
      have := comp_goA f hsrc l (acc ++ [d]) (fun y hy => h y (by simp [hy])) (by rw [e4]; exact hl) (by simp only [List.length_cons, List.length_append, List.length_nil] at hsz ⊢; omega)
      rw [this, e4]
/-- [elt for x in l if p x] -/
theorem comp_if {l l0 : List A} {l' : List D} (p : A → Bool) (g : A → D) (h : ∀ x ∈ l, ∀ s1, ∃ ρ', tg (enc x) ρw = some ρ' ∧ tt ρ' (s0 ++ [s1]) = .ok (p x) (s0 ++ [s1]) ∧ (p x = true → elt ρ' (s0 ++ [s1]) = .ok (g x) (s0 ++ [s1])))
    (hlo : ∀ x ∈ l, lo s0.length (g x) = true) (hsz : l.length ≤ 16777216) : compGo ⟨l', none⟩ tg tt elt ρw s0 (l.map enc) [] (s0 ++ [.lst []]) = .ok (.lst ((l.filter p).map g)) s0 := by
  have e : l.filterMap (fun x => if p x then some (g x) else none) = (l.filter p).map g := by
    clear h hlo hsz
    induction l with
    | nil => rfl
    | cons x l ih => by_cases hp : p x <;> simp [hp, ih]
  have := comp_goA (it := ⟨l', none⟩) (tg := tg) (tt := tt) (elt := elt) (ρw := ρw) (s0 := s0) (enc := enc) (fun x => if p x then some (g x) else none) rfl l [] (fun x hx s1 => by
    obtain ⟨ρ', e1, e2, e3⟩ := h x hx s1
    refine ⟨ρ', e1, ?_⟩
    cases hp : p x with
    | false => simp [hp] at e2 ⊢; exact e2
    | true => simp [hp] at e2 ⊢; exact ⟨e2, e3 hp⟩) (by
      rw [List.nil_append, e]
      exact lo_list fun y hy => by
        obtain ⟨x, hx, rfl⟩ := List.mem_map.mp hy
        exact hlo x (List.mem_filter.mp hx).1) (by simpa using hsz)
  rw [List.nil_append, e] at this
  exact this
end
end DL

namespace DL
open PySem PySem.Spec PyProof.Rows L2
/-! ### comprehensions, loops, by what is walked -/
section
variable {A : Type} {f : DenI} {tg : Tgt} {tt : DenB} {elt : Den} {own : List Nat} {ρ : Env} {st : Store} {enc : A → D} {body : DenS} {ks : List Nat}
/-- [elt for x in l if p x] -/
theorem cIf {l : List A} (p : A → Bool) (g : A → D) (hf : f ρ st = .ok ⟨l.map enc, none⟩ st) (h : ∀ x ∈ l, ∀ s1, ∃ ρ', tg (enc x) (killE own ρ) = some ρ' ∧ tt ρ' (st ++ [s1]) = .ok (p x) (st ++ [s1]) ∧ (p x = true → elt ρ' (st ++ [s1]) = .ok (g x) (st ++ [s1])))
    (hlo : ∀ x ∈ l, lo st.length (g x) = true) (hsz : l.length ≤ 16777216) : compE f tg tt elt own ρ st = .ok (.lst ((l.filter p).map g)) st := by
  rw [ap_comp, hf]
  exact comp_if (enc := enc) (l0 := l) p g h hlo hsz
/-- [elt for x in l] -/
theorem cMap {l : List A} (g : A → D) (hf : f ρ st = .ok ⟨l.map enc, none⟩ st) (h : ∀ x ∈ l, ∀ s1, ∃ ρ', tg (enc x) (killE own ρ) = some ρ' ∧ elt ρ' (st ++ [s1]) = .ok (g x) (st ++ [s1]))
    (hlo : ∀ x ∈ l, lo st.length (g x) = true) (hsz : l.length ≤ 16777216) : compE f tg yesB elt own ρ st = .ok (.lst (l.map g)) st := by
  have := cIf (f := f) (tg := tg) (tt := yesB) (elt := elt) (own := own) (enc := enc) (l := l) (fun _ => true) g hf (fun x hx s1 => by
    obtain ⟨ρ', e1, e2⟩ := h x hx s1
    exact ⟨ρ', e1, rfl, fun _ => e2⟩) hlo hsz
  rwa [show l.filter (fun _ => true) = l from List.filter_eq_self.mpr fun _ _ => rfl] at this
/-- a loop over what nobody changes -/
theorem fAll {l : List A} {s0 : Store} (P : Nat → Env → Store → Prop) (hf : f ρ st = .ok ⟨l.map enc, none⟩ s0) (h0 : P 0 ρ s0)
    (hs : ∀ i a ρ s, l[i]? = some a → P i ρ s → ∃ ρ2 s2, P (i + 1) ρ2 s2 ∧ ∀ k, (tgtO (tg (enc a) ρ) fun ρ' => turnO ks (body ρ' s) k) = k ρ2 s2) :
    ∃ ρ' st', P l.length ρ' st' ∧ forS f tg body ks ρ st = .next ρ' st' := by
  obtain ⟨ρ', st', h1, h2⟩ := for_pure (tg := tg) (body := body) (ks := ks) (l := l.map enc) P h0 fun i x ρ s hx hp => by
    rw [List.getElem?_map] at hx
    cases ha : l[i]? with
    | none => rw [ha] at hx; cases hx
    | some a => rw [ha] at hx; cases hx; exact hs i a ρ s ha hp
  rw [List.length_map] at h1
  refine ⟨ρ', st', h1, ?_⟩
  rw [ap_for, hf, forR_ok]
  exact h2
end
/-- the numbers of a range -/
def rgE (lo : Int) (i : Nat) : D := .int (lo + (i : Nat))
theorem range_is {lo : Int} {n : Nat} : rangeD lo n = (List.range n).map (rgE lo) := rfl
theorem range_get {n i a : Nat} (h : (List.range n)[i]? = some a) : a = i ∧ i < n := by
  by_cases hi : i < n
  · rw [List.getElem?_range hi] at h; cases h; exact ⟨rfl, hi⟩
  · rw [List.getElem?_eq_none (by simpa using hi)] at h; cases h
@[simp] theorem lo_intsS {n : Nat} {ns : List Int} : loL n (ns.map .int) = true := lo_ints
theorem map_int {A : Type} {l : List A} {g : A → Int} : (l.map fun x => D.int (g x)) = (l.map g).map D.int := by rw [List.map_map]; rfl
@[simp] theorem max_two {i j : Int} {st : Store} : maxO [.int i, .int j] st = some (.int (if j > i then j else i)) := Eq.trans rfl rfl
@[simp] theorem min_two {i j : Int} {st : Store} : minO [.int i, .int j] st = some (.int (if j < i then j else i)) := Eq.trans rfl rfl
theorem sum_ints {ns : List Int} {st : Store} : sumO [.lst (ns.map .int)] st = some (.int ns.sum) := by rw [sum_lst, ints_of]; rfl
theorem minT_ints {ns : List Int} {st : Store} (h : 0 < ns.length) : minTO [.tup (ns.map .int)] st = some (.int (minI ns)) := by
  rw [minT_tup, ints_of]
  show (if 0 < ns.length then _ else none) = _
  rw [if_pos h]
theorem cleanL_ints {k : Nat} : ∀ {xs : List Int}, cleanL (k + 1) (xs.map D.int) = true
  | [] => rfl
  | x :: xs => by
    show (clean (k + 1) (.int x) && cleanL (k + 1) (xs.map D.int)) = true
    rw [cleanL_ints]
    rfl
theorem clean_tupI {k : Nat} {xs : List Int} (h : xs.length ≤ 1000000) : clean (k + 2) (.tup (xs.map D.int)) = true := by
  show (cleanL (k + 1) (xs.map D.int) && decide ((xs.map D.int).length ≤ 16777216)) = true
  rw [cleanL_ints, List.length_map, decide_eq_true (by omega)]
  rfl
theorem perm_sum {xs ys : List Int} (h : xs.Perm ys) : xs.sum = ys.sum := by
  induction h with
  | nil => rfl
  | cons x _ ih => rw [List.sum_cons, List.sum_cons, ih]
  | swap x y l => simp only [List.sum_cons]; omega
  | trans _ _ h1 h2 => rw [h1, h2]
theorem sum_snoc {xs : List Int} {x : Int} : (xs ++ [x]).sum = xs.sum + x := by simp
theorem sum_app {xs ys : List Int} : (xs ++ ys).sum = xs.sum + ys.sum := by simp
@[simp] theorem lo_hand {n : Nat} {h : List Card} : lo n (handD h) = true := lo_cDs
@[simp] theorem lo_deal {n : Nat} {d : List (List Card)} : lo n (dealD d) = true := lo_list fun x hx => by
  obtain ⟨y, _, rfl⟩ := List.mem_map.mp hx
  exact lo_cDs
theorem sortC_perm (cs : List Card) : (sortC cs).Perm cs := List.mergeSort_perm ..
theorem hands_flat {r : Nat} {cs : List Card} (h : cs.length = 4 * r) : (handsOf r cs).flatten.Perm cs := by
  have e : handsOf r cs = [sortC ((cs.drop (0 * r)).take r), sortC ((cs.drop (1 * r)).take r), sortC ((cs.drop (2 * r)).take r), sortC ((cs.drop (3 * r)).take r)] := rfl
  rw [e]
  simp only [List.flatten_cons, List.flatten_nil, List.append_nil, Nat.zero_mul, Nat.one_mul, List.drop_zero]
  have s : ∀ k, (cs.drop (k * r)).take r ++ cs.drop ((k + 1) * r) = cs.drop (k * r) := fun k => by
    rw [show (k + 1) * r = k * r + r by rw [Nat.add_mul, Nat.one_mul], ← List.drop_drop, List.take_append_drop]
  have l3 : (cs.drop (3 * r)).take r = cs.drop (3 * r) := List.take_of_length_le (by simp; omega)
  have s1 := s 1
  have s2 := s 2
  rw [Nat.one_mul] at s1
  rw [l3]
  refine List.Perm.trans ((sortC_perm _).append ((sortC_perm _).append ((sortC_perm _).append (sortC_perm _)))) ?_
  rw [s2, s1, List.take_append_drop]
theorem hands_len {r : Nat} {cs : List Card} : (handsOf r cs).length = 4 := rfl
theorem hand_len {r : Nat} {cs : List Card} (h : cs.length = 4 * r) : ∀ x ∈ handsOf r cs, x.length = r := fun x hx => by
  unfold handsOf at hx
  obtain ⟨a, ha, rfl⟩ := List.mem_map.mp hx
  have := List.mem_range.mp ha
  rw [(sortC_perm _).length_eq, List.length_take, List.length_drop, h]
  have : a * r ≤ 3 * r := Nat.mul_le_mul_right r (by omega)
  omega
theorem hand_mem {r : Nat} {cs : List Card} (h : cs.length = 4 * r) {x : List Card} (hx : x ∈ handsOf r cs) {c : Card} (hc : c ∈ x) : c ∈ cs := (hands_flat h).mem_iff.mp (List.mem_flatten.mpr ⟨x, hx, hc⟩)
theorem allC_mem {r : Nat} {c : Card} (h : c ∈ allC r) : 0 ≤ c.1 ∧ c.1 ≤ 3 ∧ 1 ≤ c.2 ∧ c.2 ≤ r := by
  unfold allC at h
  obtain ⟨s, hs, h⟩ := List.mem_flatMap.mp h
  unfold suitC at h
  obtain ⟨k, hk, rfl⟩ := List.mem_map.mp h
  have := List.mem_range.mp hs
  have := List.mem_range.mp hk
  refine ⟨?_, ?_, ?_, ?_⟩ <;> simp only <;> omega
theorem above_len' {n k : Nat} : ((List.range n).filter fun i => decide (k ≤ i)).length = n - k := by
  induction n with
  | zero => simp
  | succ n ih =>
    rw [List.range_succ, List.filter_append, List.length_append, ih]
    by_cases h : k ≤ n
    · simp [h]; omega
    · simp [h]; omega
theorem take_snocA {A : Type} {cs : List A} {i : Nat} {c : A} (h : cs[i]? = some c) : cs.take (i + 1) = cs.take i ++ [c] := by
  rw [List.take_succ, h]
  rfl
end DL

namespace DL
open PySem PySem.Spec PyProof.Rows L2
def winner_of_b1 : DenS :=
  seqS (tgtS (tupT (consT (nmT 5) (consT (nmT 6) (nilT)))) (op2 ixD (varE 2) (varE 4))) (ifS (orB (andB (tru (op2 eqD (varE 5) (op2 ixD (op2 ixD (varE 2) (varE 3)) (conE (.int 0))))) (tru (op2 gtD (varE 6) (op2 ixD (op2 ixD (varE 2) (varE 3)) (conE (.int 1)))))) (andB (tru (op2 eqD (varE 5) (varE 0))) (tru (op2 neD (op2 ixD (op2 ixD (varE 2) (varE 3)) (conE (.int 0))) (varE 0))))) (asgS 3 (varE 4)) (skipS))
def winner_of_l1 : DenS :=
  forS (rng2E (conE (.int 1)) (conE (.int 4))) (nmT 4) (winner_of_b1) [4, 5, 6]
def b_winner_of : DenS :=
  seqS (asgS 3 (conE (.int 0))) (seqS (winner_of_l1) (retS (op2 modD (op2 addD (varE 1) (varE 3)) (conE (.int 4)))))
def f_winner_of : Fn := defG 7 3 b_winner_of
def walked_b1 : DenS :=
  seqS (asgS 1 (callE 3 f_winner_of (consL (varE 0) (consL (varE 1) (consL (slE (varE 2) (soO (varE 4)) (soO (op2 addD (varE 4) (conE (.int 4))))) (nilL)))))) (setS (op2 addD (op2 ixD (varE 3) (op2 modD (varE 1) (conE (.int 2)))) (conE (.int 1))) (varE 3) (op2 modD (varE 1) (conE (.int 2))))
def walked_l1 : DenS :=
  forS (rng3E (consL (conE (.int 0)) (consL (op2 subD (opL lenO (consL (varE 2) (nilL))) (conE (.int 3))) (consL (conE (.int 4)) (nilL))))) (nmT 4) (walked_b1) [4]
def b_walked : DenS :=
  seqS (asgS 3 (newE (consL (conE (.int 0)) (consL (conE (.int 0)) (nilL))))) (seqS (walked_l1) (retS (tupE (consL (varE 1) (consL (slE (varE 2) (soO (op2 mulD (op2 fdivD (opL lenO (consL (varE 2) (nilL))) (conE (.int 4))) (conE (.int 4)))) (noO)) (consL (opL tupleO (consL (varE 3) (nilL))) (nilL)))))))
def f_walked : Fn := defG 5 3 b_walked
def b_turn_of : DenS :=
  seqS (ifS (tru (op2 eqD (opL lenO (consL (varE 3) (nilL))) (op2 mulD (conE (.int 4)) (opL lenO (consL (op2 ixD (varE 0) (conE (.int 0))) (nilL)))))) (retS (conE .non)) (skipS)) (seqS (tgtS (tupT (consT (nmT 4) (consT (nmT 5) (consT (nmT 6) (nilT))))) (callE 3 f_walked (consL (varE 1) (consL (varE 2) (consL (varE 3) (nilL)))))) (retS (op2 modD (op2 addD (varE 4) (opL lenO (consL (varE 5) (nilL)))) (conE (.int 4)))))
def f_turn_of : Fn := defG 7 4 b_turn_of
def left_of_c2 : Den :=
  compE (itE (varE 2)) (nmT 3) (tru (op2 ninD (varE 3) (varE 1))) (varE 3) [3]
def left_of_c1 : Den :=
  compE (itE (varE 0)) (nmT 2) (yesB) (opL tupleO (consL (left_of_c2) (nilL))) [2]
def b_left_of : DenS :=
  retS (opL tupleO (consL (left_of_c1) (nilL)))
def f_left_of : Fn := defG 4 2 b_left_of
def may_play_c1 : Den :=
  compE (itE (varE 5)) (nmT 8) (andB (tru (varE 6)) (tru (op2 eqD (op2 ixD (varE 8) (conE (.int 0))) (op2 ixD (op2 ixD (varE 6) (conE (.int 0))) (conE (.int 0)))))) (varE 8) [8]
def b_may_play : DenS :=
  seqS (asgS 4 (callE 4 f_turn_of (consL (varE 0) (consL (varE 1) (consL (varE 2) (consL (varE 3) (nilL))))))) (seqS (ifS (tru (op2 isNonD (varE 4) (conE .non))) (retS (tupE (nilL))) (skipS)) (seqS (asgS 5 (op2 ixD (callE 2 f_left_of (consL (varE 0) (consL (varE 3) (nilL)))) (varE 4))) (seqS (asgS 6 (op2 ixD (callE 3 f_walked (consL (varE 1) (consL (varE 2) (consL (varE 3) (nilL))))) (conE (.int 1)))) (seqS (asgS 7 (opL tupleO (consL (may_play_c1) (nilL)))) (retS (orE (varE 7) (varE 5)))))))
def f_may_play : Fn := defG 9 4 b_may_play
def play_fault_c1 : Den :=
  compE (itE (varE 5)) (nmT 8) (yesB) (andE (op1 (isiD "int") (varE 8)) (notE (op1 (isiD "bool") (varE 8)))) [8]
def play_fault_b1 : DenS :=
  seqS (asgS 6 (slE (varE 3) (noO) (soO (varE 4)))) (seqS (asgS 7 (callE 4 f_turn_of (consL (varE 0) (consL (varE 1) (consL (varE 2) (consL (varE 6) (nilL))))))) (seqS (ifS (tru (op2 isNonD (varE 7) (conE .non))) (retS (tupE (consL (varE 4) (consL (conE (.str "over")) (nilL))))) (skipS)) (seqS (ifS (orB (notB (tru (op1 (isiD "tuple") (varE 5)))) (notB (tru (opL allO (consL (play_fault_c1) (nilL)))))) (retS (tupE (consL (varE 4) (consL (conE (.str "hand")) (nilL))))) (skipS)) (seqS (ifS (tru (op2 ninD (varE 5) (op2 ixD (callE 2 f_left_of (consL (varE 0) (consL (varE 6) (nilL)))) (varE 7)))) (retS (tupE (consL (varE 4) (consL (conE (.str "hand")) (nilL))))) (skipS)) (ifS (tru (op2 ninD (varE 5) (callE 4 f_may_play (consL (varE 0) (consL (varE 1) (consL (varE 2) (consL (varE 6) (nilL)))))))) (retS (tupE (consL (varE 4) (consL (conE (.str "follow")) (nilL))))) (skipS))))))
def play_fault_l1 : DenS :=
  forS (enumE (varE 3)) (tupT (consT (nmT 4) (consT (nmT 5) (nilT)))) (play_fault_b1) [4, 5, 6, 7]
def b_play_fault : DenS :=
  seqS (play_fault_l1) (retS (conE .non))
def f_play_fault : Fn := defG 9 4 b_play_fault
def b_tricks_of : DenS :=
  retS (op2 ixD (callE 3 f_walked (consL (varE 0) (consL (varE 1) (consL (varE 2) (nilL))))) (conE (.int 2)))
def f_tricks_of : Fn := defG 3 3 b_tricks_of

/-! ### rows of cards -/
@[simp] theorem ix_cD0 {c : Card} {st : Store} : ixD (cD c) (.int 0) st = some (.int c.1) := Eq.trans rfl rfl
@[simp] theorem ix_cD1 {c : Card} {st : Store} : ixD (cD c) (.int 1) st = some (.int c.2) := Eq.trans rfl rfl
theorem eqv_cD {c d : Card} : D.eqv (cD c) (cD d) = decide (c = d) := by
  obtain ⟨a, b⟩ := c
  obtain ⟨a', b'⟩ := d
  show ((decide (a = a')) && (decide (b = b') && true)) = _
  by_cases h1 : a = a' <;> by_cases h2 : b = b' <;> simp [h1, h2]
theorem fit_cD {n : Nat} {c : Card} : fits (cD c) (n + 2) = true := rfl
theorem fitL_cD {n : Nat} : ∀ {cs : List Card}, fitsL (cs.map cD) (n + 2) = true
  | [] => rfl
  | c :: cs => by
    show (fits (cD c) (n + 2) && fitsL (cs.map cD) (n + 2)) = true
    rw [fitL_cD]
    rfl
theorem eqvL_cD : ∀ {cs ds : List Card}, eqvL (cs.map cD) (ds.map cD) = decide (cs = ds)
  | [], [] => rfl
  | [], d :: ds => by simp
  | c :: cs, [] => by simp
  | c :: cs, d :: ds => by
    show (D.eqv (cD c) (cD d) && eqvL (cs.map cD) (ds.map cD)) = _
    rw [eqv_cD, eqvL_cD]
    by_cases h1 : c = d <;> by_cases h2 : cs = ds <;> simp [h1, h2]
theorem inL_cD {c : Card} : ∀ {ds : List Card}, inL (cD c) (ds.map cD) = decide (c ∈ ds)
  | [] => by simp [inL]
  | d :: ds => by
    have ih := inL_cD (c := c) (ds := ds)
    unfold inL at ih ⊢
    rw [List.map_cons, List.any_cons, ih, eqv_cD]
    by_cases h1 : d = c
    · simp [h1]
    · have : ¬ c = d := fun z => h1 z.symm
      by_cases h2 : c ∈ ds <;> simp [h1, h2, this]
theorem in_cards {c : Card} {ds : List Card} {st : Store} : inD (cD c) (handD ds) st = some (.bl (decide (c ∈ ds))) := by
  show (if (fits (cD c) 60 && fitsL (ds.map cD) 60) = true then some (D.bl (inL (cD c) (ds.map cD))) else none) = _
  rw [fit_cD, fitL_cD, inL_cD]
  rfl
theorem nin_cards {c : Card} {ds : List Card} {st : Store} : ninD (cD c) (handD ds) st = some (.bl (!decide (c ∈ ds))) := by
  show (if (fits (cD c) 60 && fitsL (ds.map cD) 60) = true then some (D.bl (!inL (cD c) (ds.map cD))) else none) = _
  rw [fit_cD, fitL_cD, inL_cD]
  rfl
theorem eq_cards {cs ds : List Card} {st : Store} : eqD (handD cs) (handD ds) st = some (.bl (decide (cs = ds))) := by
  unfold handD
  rw [eq_tup, fitL_cD (n := 57), fitL_cD (n := 57), eqvL_cD]
  rfl
theorem ne_cards {cs ds : List Card} {st : Store} : neD (handD cs) (handD ds) st = some (.bl (!decide (cs = ds))) := by
  unfold handD
  rw [ne_tup, fitL_cD (n := 57), fitL_cD (n := 57), eqvL_cD]
  rfl
@[simp] theorem it_hand {cs : List Card} {st : Store} : itD (handD cs) st = some ⟨cs.map cD, none⟩ := Eq.trans rfl rfl
@[simp] theorem it_deal {d : List (List Card)} {st : Store} : itD (dealD d) st = some ⟨d.map handD, none⟩ := Eq.trans rfl rfl
@[simp] theorem len_hand {cs : List Card} {st : Store} : lenO [handD cs] st = some (.int (cs.length : Nat)) := by
  unfold handD
  rw [len_tup, List.length_map]
@[simp] theorem tru_hand {cs : List Card} {st : Store} : truD (handD cs) st = some (!cs.isEmpty) := by
  unfold handD
  rw [tru_tup]
  cases cs <;> rfl
theorem add_card {cs : List Card} {c : Card} {st : Store} (h : cs.length ≤ 10000) : addD (handD cs) (.tup [cD c]) st = some (handD (cs ++ [c])) := by
  unfold handD
  rw [add_tup (by simp; omega), List.map_append]
  rfl
theorem ix_hand {cs : List Card} {i : Int} {c : Card} {st : Store} (h0 : 0 ≤ i) (h : cs[i.toNat]? = some c) : ixD (handD cs) (.int i) st = some (cD c) := by
  show atI (cs.map cD) i = _
  exact atI_pos h0 (by rw [List.getElem?_map, h]; rfl)
theorem ix_deal {d : List (List Card)} {i : Int} {h : List Card} {st : Store} (h0 : 0 ≤ i) (e : d[i.toNat]? = some h) : ixD (dealD d) (.int i) st = some (handD h) := by
  show atI (d.map handD) i = _
  exact atI_pos h0 (by rw [List.getElem?_map, e]; rfl)
theorem sl_handT {cs : List Card} {j : Nat} {st : Store} : slD (handD cs) none (some (j : Int)) st = some (handD (cs.take j)) := by
  unfold handD
  rw [sl_tup, cut_to (by omega), Int.toNat_natCast, List.map_take]
theorem tuple_hand {cs : List Card} {st : Store} : tupleO [.lst (cs.map cD)] st = some (handD cs) := rfl
theorem list_hand {cs : List Card} {st : Store} : listO [handD cs] st = some (.lst (cs.map cD)) := rfl
/-! ### a trick -/
def beats (s : Int) (b c : Card) : Bool := (decide (c.1 = b.1) && decide (c.2 > b.2)) || (decide (c.1 = s) && !decide (b.1 = s))
def bestN (s : Int) (tr : List Card) : Nat → Nat
  | 0 => 0
  | i + 1 => match tr[bestN s tr i]?, tr[i + 1]? with
    | some b, some c => if beats s b c = true then i + 1 else bestN s tr i
    | _, _ => bestN s tr i
theorem best_le {s : Int} {tr : List Card} : ∀ i, bestN s tr i ≤ i
  | 0 => Nat.le_refl _
  | i + 1 => by
    have ih := best_le (s := s) (tr := tr) i
    unfold bestN
    split
    · split
      · exact Nat.le_refl _
      · omega
    · omega
def winP (s l : Int) (tr : List Card) : Int := (l + bestN s tr 3) % 4
theorem winner_ok {s l : Int} {tr : List Card} (st : Store) (h : tr.length = 4) : f_winner_of [.int s, .int l, handD tr] st = .ok (.int (winP s l tr)) st := by
  have el : winner_of_l1 [some (.int s), some (.int l), some (handD tr), some (.int 0), none, none, none] st = .next [some (.int s), some (.int l), some (handD tr), some (.int (bestN s tr 3 : Nat)), none, none, none] st := by
    obtain ⟨ρ', s', ⟨rfl, rfl⟩, e⟩ := fAll (f := rng2E (conE (.int 1)) (conE (.int 4))) (tg := nmT 4) (body := winner_of_b1) (ks := [4, 5, 6]) (ρ := [some (.int s), some (.int l), some (handD tr), some (.int 0), none, none, none]) (st := st) (s0 := st) (enc := rgE 1) (l := List.range 3)
      (fun i ρ q => ρ = [some (.int s), some (.int l), some (handD tr), some (.int (bestN s tr i : Nat)), none, none, none] ∧ q = st) (by simp (disch := first | assumption | omega | (simp only [List.length_cons, List.length_append, List.length_map, List.length_nil, List.length_set, List.length_replicate, rep_length, Nat.zero_add, Nat.mul_one]; omega) | (refine mul_ok ?_ ?_ <;> omega) | (refine cdiv_ok ?_ ?_ <;> omega) | (simp; done) | fail); rfl) ⟨rfl, rfl⟩ (fun i x ρ q hx ⟨e1, e2⟩ => by
        obtain ⟨rfl, hi⟩ := range_get hx
        subst e1 e2
        have hb := best_le (s := s) (tr := tr) x
        have h1 : tr[bestN s tr x]? = some tr[bestN s tr x] := List.getElem?_eq_getElem (by omega)
        have h2 : tr[x + 1]? = some tr[x + 1] := List.getElem?_eq_getElem (by omega)
        have g1 : ∀ q, ixD (handD tr) (.int (bestN s tr x : Nat)) q = some (cD tr[bestN s tr x]) := fun q => ix_hand (by omega) (by rw [Int.toNat_natCast]; exact h1)
        have g2 : ∀ q, ixD (handD tr) (.int (1 + (x : Int))) q = some (cD tr[x + 1]) := fun q => ix_hand (by omega) (by rw [show (1 + (x : Int)).toNat = x + 1 by omega]; exact h2)
        have hs : bestN s tr (x + 1) = if beats s tr[bestN s tr x] tr[x + 1] = true then x + 1 else bestN s tr x := by
          show (match tr[bestN s tr x]?, tr[x + 1]? with | some b, some c => _ | _, _ => _) = _
          rw [h1, h2]
        rw [hs]
        generalize tr[bestN s tr x] = b at *
        generalize tr[x + 1] = c at *
        generalize bestN s tr x = k at *
        obtain ⟨b1, b2⟩ := b
        obtain ⟨c1, c2⟩ := c
        have hcast : (1 + (x : Int)) = (x : Int) + 1 := by omega
        refine ⟨_, _, ⟨rfl, rfl⟩, fun k => ?_⟩
        rw [hcast] at g2
        unfold cD at g2
        by_cases p1 : c1 = b1 <;> by_cases p2 : c2 > b2 <;> by_cases p3 : c1 = s <;> by_cases p4 : b1 = s <;> simp (disch := first | assumption | omega | (simp only [List.length_cons, List.length_append, List.length_map, List.length_nil, List.length_set, List.length_replicate, rep_length, Nat.zero_add, Nat.mul_one]; omega) | (refine mul_ok ?_ ?_ <;> omega) | (refine cdiv_ok ?_ ?_ <;> omega) | (simp; done) | fail) [winner_of_b1, rgE, hcast, g1, g2, beats, p1, p2, p3, p4])
    exact e
  simp (disch := first | assumption | omega | (simp only [List.length_cons, List.length_append, List.length_map, List.length_nil, List.length_set, List.length_replicate, rep_length, Nat.zero_add, Nat.mul_one]; omega) | (refine mul_ok ?_ ?_ <;> omega) | (refine cdiv_ok ?_ ?_ <;> omega) | (simp; done) | fail) [f_winner_of, b_winner_of, el, winP]
/-! ### tricks -/
def trickAt (cs : List Card) (i : Nat) : List Card := (cs.drop (4 * i)).take 4
def wk (s l : Int) (cs : List Card) : Nat → Int × Nat × Nat
  | 0 => (l, 0, 0)
  | i + 1 => (winP s (wk s l cs i).1 (trickAt cs i), (wk s l cs i).2.1 + (if winP s (wk s l cs i).1 (trickAt cs i) % 2 = 0 then 1 else 0), (wk s l cs i).2.2 + (if winP s (wk s l cs i).1 (trickAt cs i) % 2 = 0 then 0 else 1))
def leadP (s l : Int) (cs : List Card) : Int := (wk s l cs (cs.length / 4)).1
def wonP (s l : Int) (cs : List Card) : Nat × Nat := (wk s l cs (cs.length / 4)).2
def curP (cs : List Card) : List Card := cs.drop (cs.length / 4 * 4)
def wonD (w : Nat × Nat) : D := .tup [.int (w.1 : Nat), .int (w.2 : Nat)]
theorem cut_mid {cs : List Card} {a b : Nat} {st : Store} (hab : a ≤ b) : slD (handD cs) (some (a : Int)) (some (b : Int)) st = some (handD ((cs.drop a).take (b - a))) := by
  unfold handD
  rw [sl_tup, cut_part (by omega), Int.toNat_natCast, Int.toNat_natCast]
  simp [List.map_take, List.map_drop]
theorem cut_fromC {cs : List Card} {a : Nat} {st : Store} : slD (handD cs) (some (a : Int)) none st = some (handD (cs.drop a)) := by
  unfold handD
  rw [sl_tup, cut_from (by omega), Int.toNat_natCast, List.map_drop]
theorem win_range {s l : Int} {tr : List Card} : 0 ≤ winP s l tr ∧ winP s l tr < 4 := by unfold winP; omega
theorem range3_is {n : Nat} {st : Store} (hn : n ≤ 1000) : rng3D [.int 0, .int ((n : Int) - 3), .int 4] = some ⟨(List.range (n / 4)).map fun m => .int ((4 * m : Nat) : Int), none⟩ := by
  show (if (rngB 0 && rngB ((n : Int) - 3) && rngB 4 && decide ((4 : Int) ≠ 0) && Builtin.Range.small 0 ((n : Int) - 3) 4) = true then some (⟨rangeC 0 4 (Builtin.Range.rangeSize 0 ((n : Int) - 3) 4).toNat, none⟩ : ItD) else none) = _
  have hs : (Builtin.Range.rangeSize 0 ((n : Int) - 3) 4).toNat = n / 4 := by
    unfold Builtin.Range.rangeSize
    rw [if_pos (by decide)]
    split <;> omega
  have hc : (rngB 0 && rngB ((n : Int) - 3) && rngB 4 && decide ((4 : Int) ≠ 0) && Builtin.Range.small 0 ((n : Int) - 3) 4) = true := by
    have h1 : rngB ((n : Int) - 3) = true := decide_eq_true (by omega)
    have h2 : 0 ≤ Builtin.Range.rangeSize 0 ((n : Int) - 3) 4 ∧ Builtin.Range.rangeSize 0 ((n : Int) - 3) 4 ≤ 1000 := by
      unfold Builtin.Range.rangeSize
      rw [if_pos (by decide)]
      split <;> omega
    rw [h1]
    unfold Builtin.Range.small
    generalize Builtin.Range.rangeSize 0 ((n : Int) - 3) 4 = z at *
    simp [rngB, Builtin.Range.rangeFitsLong]
    omega
  rw [if_pos hc, hs]
  unfold rangeC
  congr 2
  refine List.map_congr_left fun m _ => ?_
  congr 1
  omega
theorem walked_ok {s l : Int} {cs : List Card} (st : Store) (hl : cs.length ≤ 1000) : f_walked [.int s, .int l, handD cs] st = .ok (.tup [.int (leadP s l cs), handD (curP cs), wonD (wonP s l cs)]) st := by
  have el : walked_l1 [some (.int s), some (.int l), some (handD cs), some (.ref st.length), none] (st ++ [.lst [.int 0, .int 0]]) = .next [some (.int s), some (.int (leadP s l cs)), some (handD cs), some (.ref st.length), none] (st ++ [.lst [.int ((wonP s l cs).1 : Nat), .int ((wonP s l cs).2 : Nat)]]) := by
    obtain ⟨ρ', s', ⟨rfl, rfl⟩, e⟩ := fAll (f := rng3E (consL (conE (.int 0)) (consL (op2 subD (opL lenO (consL (varE 2) (nilL))) (conE (.int 3))) (consL (conE (.int 4)) (nilL))))) (tg := nmT 4) (body := walked_b1) (ks := [4]) (ρ := [some (.int s), some (.int l), some (handD cs), some (.ref st.length), none]) (st := st ++ [.lst [.int 0, .int 0]]) (s0 := st ++ [.lst [.int 0, .int 0]]) (enc := fun m : Nat => .int ((4 * m : Nat) : Int)) (l := List.range (cs.length / 4))
      (fun i ρ q => ρ = [some (.int s), some (.int (wk s l cs i).1), some (handD cs), some (.ref st.length), none] ∧ q = st ++ [.lst [.int ((wk s l cs i).2.1 : Nat), .int ((wk s l cs i).2.2 : Nat)]]) (by
        have := range3_is (n := cs.length) (st := st) hl
        simp (disch := first | assumption | omega | (simp only [List.length_cons, List.length_append, List.length_map, List.length_nil, List.length_set, List.length_replicate, rep_length, Nat.zero_add, Nat.mul_one]; omega) | (refine mul_ok ?_ ?_ <;> omega) | (refine cdiv_ok ?_ ?_ <;> omega) | (simp; done) | fail) [rng3E, this]) ⟨rfl, rfl⟩ (fun i x ρ q hx ⟨e1, e2⟩ => by
        obtain ⟨rfl, hi⟩ := range_get hx
        subst e1 e2
        have hsl : ∀ q, slD (handD cs) (some ((4 * x : Nat) : Int)) (some (((4 * x : Nat) : Int) + 4)) q = some (handD (trickAt cs x)) := fun q => by
          rw [show ((4 * x : Nat) : Int) + 4 = ((4 * x + 4 : Nat) : Int) by omega, cut_mid (by omega), show 4 * x + 4 - 4 * x = 4 by omega]
          rfl
        have hw := fun q => winner_ok (s := s) (l := (wk s l cs x).1) (tr := trickAt cs x) q (by unfold trickAt; rw [List.length_take, List.length_drop]; omega)
        refine ⟨_, _, ⟨rfl, rfl⟩, fun k => ?_⟩
        show _ = k [some (.int s), some (.int (winP s (wk s l cs x).1 (trickAt cs x))), some (handD cs), some (.ref st.length), none] (st ++ [.lst [.int (((wk s l cs x).2.1 + (if winP s (wk s l cs x).1 (trickAt cs x) % 2 = 0 then 1 else 0) : Nat)), .int (((wk s l cs x).2.2 + (if winP s (wk s l cs x).1 (trickAt cs x) % 2 = 0 then 0 else 1) : Nat))]])
        obtain ⟨w0, w1⟩ := win_range (s := s) (l := (wk s l cs x).1) (tr := trickAt cs x)
        generalize winP s (wk s l cs x).1 (trickAt cs x) = w at *
        generalize (wk s l cs x).2.1 = a at *
        generalize (wk s l cs x).2.2 = b at *
        generalize (wk s l cs x).1 = ll at *
        generalize ((4 * x : Nat) : Int) = y at *
        rcases (show w % 2 = 0 ∨ w % 2 = 1 by omega) with h | h <;> simp (disch := first | assumption | omega | (simp only [List.length_cons, List.length_append, List.length_map, List.length_nil, List.length_set, List.length_replicate, rep_length, Nat.zero_add, Nat.mul_one]; omega) | (refine mul_ok ?_ ?_ <;> omega) | (refine cdiv_ok ?_ ?_ <;> omega) | (simp; done) | fail) [walked_b1, hsl, hw, h])
    rw [List.length_range] at e
    exact e
  have hm : mulD (.int ((cs.length : Int) / 4)) (.int 4) (st ++ [.lst [.int ((wonP s l cs).1 : Nat), .int ((wonP s l cs).2 : Nat)]]) = some (.int ((cs.length : Int) / 4 * 4)) := mul_int (mul_ok (by omega) (by omega))
  have hsl : ∀ q, slD (handD cs) (some ((cs.length : Int) / 4 * 4)) none q = some (handD (curP cs)) := fun q => by
    rw [show (cs.length : Int) / 4 * 4 = ((cs.length / 4 * 4 : Nat) : Int) by omega]
    exact cut_fromC
  have ht : ∀ a b : D, tupleO [.ref st.length] (st ++ [.lst [a, b]]) = some (.tup [a, b]) := fun a b => by
    show (view (st ++ [.lst [a, b]]) (.ref st.length)).map D.tup = _
    unfold view
    simp
  simp (disch := first | assumption | omega | (simp only [List.length_cons, List.length_append, List.length_map, List.length_nil, List.length_set, List.length_replicate, rep_length, Nat.zero_add, Nat.mul_one]; omega) | (refine mul_ok ?_ ?_ <;> omega) | (refine cdiv_ok ?_ ?_ <;> omega) | (simp; done) | fail) [f_walked, b_walked, el, hm, hsl, ht]
  rfl
end DL

namespace DL
open PySem PySem.Spec PyProof.Rows L2
/-! ### turns -/
def turnP (r : Nat) (s l : Int) (cs : List Card) : Option Int := if cs.length = 4 * r then none else some ((leadP s l cs + (cs.length % 4 : Nat)) % 4)
def oD : Option Int → D
  | none => .non
  | some i => .int i
def leftP (d : List (List Card)) (cs : List Card) : List (List Card) := d.map fun h => h.filter fun c => !decide (c ∈ cs)
theorem cur_len {cs : List Card} : (curP cs).length = cs.length % 4 := by
  unfold curP
  rw [List.length_drop]
  omega
structure Deal (r : Nat) (d : List (List Card)) : Prop where
  four : d.length = 4
  each : ∀ h ∈ d, h.length = r
  nd : d.flatten.Nodup
theorem Deal.at0 {r : Nat} {d : List (List Card)} (D : Deal r d) : ∃ h0, d[0]? = some h0 ∧ h0.length = r := by
  have := D.four
  refine ⟨d[0], List.getElem?_eq_getElem (by omega), D.each _ (List.getElem_mem _)⟩
theorem turn_ok {r : Nat} {d : List (List Card)} {s l : Int} {cs : List Card} (st : Store) (hD : Deal r d) (hr : r ≤ 200) (hl : cs.length ≤ 1000) : f_turn_of [dealD d, .int s, .int l, handD cs] st = .ok (oD (turnP r s l cs)) st := by
  obtain ⟨h0, e0, l0⟩ := hD.at0
  have hi : ∀ q, ixD (dealD d) (.int 0) q = some (handD h0) := fun q => ix_deal (by omega) e0
  have hw := walked_ok (s := s) (l := l) (cs := cs) st hl
  have hm : ∀ q, mulD (.int 4) (.int (r : Int)) q = some (.int (4 * (r : Int))) := fun q => mul_int (mul_ok (by omega) (by omega))
  by_cases h : (cs.length : Int) = 4 * (r : Int)
  · have e : turnP r s l cs = none := if_pos (by omega)
    rw [e]
    simp (disch := first | assumption | omega | (simp only [List.length_cons, List.length_append, List.length_map, List.length_nil, List.length_set, List.length_replicate, rep_length, Nat.zero_add, Nat.mul_one]; omega) | (refine mul_ok ?_ ?_ <;> omega) | (refine cdiv_ok ?_ ?_ <;> omega) | (simp; done) | fail) [f_turn_of, b_turn_of, hi, l0, hm, h, oD]
  · have e : turnP r s l cs = some ((leadP s l cs + (cs.length % 4 : Nat)) % 4) := if_neg (by omega)
    rw [e]
    have hc := cur_len (cs := cs)
    generalize leadP s l cs = w at *
    generalize wonP s l cs = w2 at *
    generalize curP cs = cc at *
    simp (disch := first | assumption | omega | (simp only [List.length_cons, List.length_append, List.length_map, List.length_nil, List.length_set, List.length_replicate, rep_length, Nat.zero_add, Nat.mul_one]; omega) | (refine mul_ok ?_ ?_ <;> omega) | (refine cdiv_ok ?_ ?_ <;> omega) | (simp; done) | fail) [f_turn_of, b_turn_of, hi, l0, hm, h, oD, hw, hc]
theorem left_ok {d : List (List Card)} {cs : List Card} (st : Store) (hd : d.length ≤ 1000) (hh : ∀ h ∈ d, h.length ≤ 1000) : f_left_of [dealD d, handD cs] st = .ok (dealD (leftP d cs)) st := by
  have h1 : left_of_c1 [some (dealD d), some (handD cs), none, none] st = .ok (.lst (d.map fun h => handD (h.filter fun c => !decide (c ∈ cs)))) st := by
    refine cMap (enc := handD) (l := d) _ rfl (fun h hm s1 => ⟨_, rfl, ?_⟩) (fun _ _ => lo_cDs) (by omega)
    have h2 : left_of_c2 [some (dealD d), some (handD cs), some (handD h), none] (st ++ [s1]) = .ok (.lst ((h.filter fun c => !decide (c ∈ cs)).map cD)) (st ++ [s1]) :=
      cIf (enc := cD) (l := h) (fun c => !decide (c ∈ cs)) cD rfl (fun c hc s1 => ⟨_, rfl, by simp (disch := first | assumption | omega | (simp only [List.length_cons, List.length_append, List.length_map, List.length_nil, List.length_set, List.length_replicate, rep_length, Nat.zero_add, Nat.mul_one]; omega) | (refine mul_ok ?_ ?_ <;> omega) | (refine cdiv_ok ?_ ?_ <;> omega) | (simp; done) | fail) [nin_cards], fun _ => by simp (disch := first | assumption | omega | (simp only [List.length_cons, List.length_append, List.length_map, List.length_nil, List.length_set, List.length_replicate, rep_length, Nat.zero_add, Nat.mul_one]; omega) | (refine mul_ok ?_ ?_ <;> omega) | (refine cdiv_ok ?_ ?_ <;> omega) | (simp; done) | fail)⟩) (fun _ _ => rfl) (by have := hh h hm; omega)
    simp (disch := first | assumption | omega | (simp only [List.length_cons, List.length_append, List.length_map, List.length_nil, List.length_set, List.length_replicate, rep_length, Nat.zero_add, Nat.mul_one]; omega) | (refine mul_ok ?_ ?_ <;> omega) | (refine cdiv_ok ?_ ?_ <;> omega) | (simp; done) | fail) [h2, tuple_hand]
    rfl
  have e : (D.tup (d.map fun h => handD (h.filter fun c => !decide (c ∈ cs)))) = dealD (leftP d cs) := by
    show _ = D.tup ((d.map fun h => h.filter fun c => !decide (c ∈ cs)).map handD)
    rw [List.map_map]
    rfl
  simp (disch := first | assumption | omega | (simp only [List.length_cons, List.length_append, List.length_map, List.length_nil, List.length_set, List.length_replicate, rep_length, Nat.zero_add, Nat.mul_one]; omega) | (refine mul_ok ?_ ?_ <;> omega) | (refine cdiv_ok ?_ ?_ <;> omega) | (simp; done) | fail) [f_left_of, b_left_of, h1, e]
def follow (cur : List Card) (c : Card) : Bool := match cur with
  | [] => false
  | t :: _ => decide (c.1 = t.1)
def mayP (r : Nat) (d : List (List Card)) (s l : Int) (cs : List Card) : List Card := match turnP r s l cs with
  | none => []
  | some p => if (((leftP d cs)[p.toNat]?.getD []).filter (follow (curP cs))).isEmpty then (leftP d cs)[p.toNat]?.getD [] else ((leftP d cs)[p.toNat]?.getD []).filter (follow (curP cs))
theorem turn_range {r : Nat} {s l p : Int} {cs : List Card} (h : turnP r s l cs = some p) : 0 ≤ p ∧ p < 4 := by
  unfold turnP at h
  split at h
  · cases h
  · cases h
    omega
theorem left_get {d : List (List Card)} {cs : List Card} {p : Int} (h4 : d.length = 4) (h0 : 0 ≤ p ∧ p < 4) : ∃ h, d[p.toNat]? = some h ∧ (leftP d cs)[p.toNat]? = some (h.filter fun c => !decide (c ∈ cs)) := by
  refine ⟨d[p.toNat], List.getElem?_eq_getElem (by omega), ?_⟩
  unfold leftP
  rw [List.getElem?_map, List.getElem?_eq_getElem (by omega)]
  rfl
theorem may_play_ok {r : Nat} {d : List (List Card)} {s l : Int} {cs : List Card} (st : Store) (hD : Deal r d) (hr : r ≤ 200) (hl : cs.length ≤ 1000) : f_may_play [dealD d, .int s, .int l, handD cs] st = .ok (handD (mayP r d s l cs)) st := by
  have ht := turn_ok (s := s) (l := l) st hD hr hl
  have hw := walked_ok (s := s) (l := l) (cs := cs) st hl
  unfold mayP
  cases h : turnP r s l cs with
  | none =>
    rw [h] at ht
    simp (disch := first | assumption | omega | (simp only [List.length_cons, List.length_append, List.length_map, List.length_nil, List.length_set, List.length_replicate, rep_length, Nat.zero_add, Nat.mul_one]; omega) | (refine mul_ok ?_ ?_ <;> omega) | (refine cdiv_ok ?_ ?_ <;> omega) | (simp; done) | fail) [f_may_play, b_may_play, ht, oD]
    rfl
  | some p =>
    rw [h] at ht
    have hp := turn_range h
    obtain ⟨hd, e1, e2⟩ := left_get (cs := cs) hD.four hp
    have hlf := left_ok (cs := cs) st (d := d) (by have := hD.four; omega) (fun h hm => by have := hD.each h hm; omega)
    have hi : ∀ q, ixD (dealD (leftP d cs)) (.int p) q = some (handD (hd.filter fun c => !decide (c ∈ cs))) := fun q => ix_deal hp.1 e2
    dsimp only
    rw [e2]
    have hll : (hd.filter fun c => !decide (c ∈ cs)).length ≤ 200 := by
      have := List.length_filter_le (fun c => !decide (c ∈ cs)) hd
      have := hD.each hd (List.mem_of_getElem? e1)
      omega
    dsimp only [Option.getD_some]
    generalize (hd.filter fun c => !decide (c ∈ cs)) = hf at *
    generalize curP cs = cur at *
    have hc : may_play_c1 [some (dealD d), some (.int s), some (.int l), some (handD cs), some (.int p), some (handD hf), some (handD cur), none, none] st = .ok (.lst ((hf.filter (follow cur)).map cD)) st := by
      refine cIf (enc := cD) (l := hf) (follow cur) cD rfl (fun c hc s1 => ⟨_, rfl, ?_, fun _ => by simp (disch := first | assumption | omega | (simp only [List.length_cons, List.length_append, List.length_map, List.length_nil, List.length_set, List.length_replicate, rep_length, Nat.zero_add, Nat.mul_one]; omega) | (refine mul_ok ?_ ?_ <;> omega) | (refine cdiv_ok ?_ ?_ <;> omega) | (simp; done) | fail)⟩) (fun _ _ => rfl) (by omega)
      cases cur with
      | nil => simp (disch := first | assumption | omega | (simp only [List.length_cons, List.length_append, List.length_map, List.length_nil, List.length_set, List.length_replicate, rep_length, Nat.zero_add, Nat.mul_one]; omega) | (refine mul_ok ?_ ?_ <;> omega) | (refine cdiv_ok ?_ ?_ <;> omega) | (simp; done) | fail) [follow]
      | cons t ts =>
        have hx : ∀ q, ixD (handD (t :: ts)) (.int 0) q = some (cD t) := fun q => ix_hand (by omega) rfl
        simp (disch := first | assumption | omega | (simp only [List.length_cons, List.length_append, List.length_map, List.length_nil, List.length_set, List.length_replicate, rep_length, Nat.zero_add, Nat.mul_one]; omega) | (refine mul_ok ?_ ?_ <;> omega) | (refine cdiv_ok ?_ ?_ <;> omega) | (simp; done) | fail) [hx, follow]
    generalize wonP s l cs = w2 at *
    have hx1 : ∀ q, ixD (.tup [.int (leadP s l cs), handD cur, wonD w2]) (.int 1) q = some (handD cur) := fun q => rfl
    by_cases hne : (hf.filter (follow cur)).isEmpty = true
    · rw [if_pos hne]
      rw [List.isEmpty_iff.mp hne] at hc
      simp (disch := first | assumption | omega | (simp only [List.length_cons, List.length_append, List.length_map, List.length_nil, List.length_set, List.length_replicate, rep_length, Nat.zero_add, Nat.mul_one]; omega) | (refine mul_ok ?_ ?_ <;> omega) | (refine cdiv_ok ?_ ?_ <;> omega) | (simp; done) | fail) [f_may_play, b_may_play, ht, oD, hlf, hi, hw, hx1, hc, tuple_hand, -ix_tup]
    · rw [if_neg hne]
      generalize hf.filter (follow cur) = gg at *
      have hne : gg.isEmpty = false := by simpa using hne
      simp (disch := first | assumption | omega | (simp only [List.length_cons, List.length_append, List.length_map, List.length_nil, List.length_set, List.length_replicate, rep_length, Nat.zero_add, Nat.mul_one]; omega) | (refine mul_ok ?_ ?_ <;> omega) | (refine cdiv_ok ?_ ?_ <;> omega) | (simp; done) | fail) [f_may_play, b_may_play, ht, oD, hlf, hi, hw, hx1, hc, tuple_hand, hne, -ix_tup, -tuple_lst]
theorem tricks_ok {s l : Int} {cs : List Card} (st : Store) (hl : cs.length ≤ 1000) : f_tricks_of [.int s, .int l, handD cs] st = .ok (wonD (wonP s l cs)) st := by
  have hw := walked_ok (s := s) (l := l) (cs := cs) st hl
  have hx : ∀ q, ixD (.tup [.int (leadP s l cs), handD (curP cs), wonD (wonP s l cs)]) (.int 2) q = some (wonD (wonP s l cs)) := fun q => rfl
  have hlo : lo st.length (wonD (wonP s l cs)) = true := rfl
  generalize wonD (wonP s l cs) = w at *
  simp (disch := first | assumption | omega | (simp only [List.length_cons, List.length_append, List.length_map, List.length_nil, List.length_set, List.length_replicate, rep_length, Nat.zero_add, Nat.mul_one]; omega) | (refine mul_ok ?_ ?_ <;> omega) | (refine cdiv_ok ?_ ?_ <;> omega) | (simp; done) | fail) [f_tricks_of, b_tricks_of, hw, hx, hlo, -ix_tup]
end DL

namespace DL
open PySem PySem.Spec PyProof.Rows L2
def l_all_bids_c1 : Den :=
  compE (rng1E (conE (.int 5))) (nmT 3) (yesB) (tupE (consL (varE 2) (consL (varE 3) (nilL)))) [3]
def l_all_bids_b1 : DenS :=
  asgS 1 (op2 addD (varE 1) (l_all_bids_c1))
def l_all_bids_l1 : DenS :=
  forS (rng2E (conE (.int 1)) (op2 addD (varE 0) (conE (.int 1)))) (nmT 2) (l_all_bids_b1) [2]
def b_l_all_bids : DenS :=
  seqS (asgS 1 (lstE (nilL))) (seqS (l_all_bids_l1) (retS (varE 1)))
def f_l_all_bids : Fn := defG 4 1 b_l_all_bids
def l_may_call_c1 : Den :=
  compE (enumE (varE 1)) (tupT (consT (nmT 6) (consT (nmT 7) (nilT)))) (tru (op2 neD (varE 7) (conE (.str "pass")))) (varE 6) [6, 7]
def l_may_call_c2 : Den :=
  compE (itE (varE 1)) (nmT 7) (tru (op1 (isiD "tuple") (varE 7))) (varE 7) [7]
def l_may_call_c3 : Den :=
  compE (itE (callE 1 f_l_all_bids (consL (varE 0) (nilL)))) (nmT 8) (tru (op2 gtD (varE 8) (op2 ixD (orE (varE 3) (lstE (consL (tupE (consL (conE (.int 0)) (consL (conE (.int 4)) (nilL)))) (nilL)))) (op1 negD (conE (.int 1)))))) (varE 8) [8]
def b_l_may_call : DenS :=
  seqS (asgS 2 (l_may_call_c1)) (seqS (asgS 3 (l_may_call_c2)) (seqS (asgS 4 (op2 subD (op2 subD (opL lenO (consL (varE 1) (nilL))) (conE (.int 1))) (op2 ixD (orE (varE 2) (lstE (consL (op1 negD (conE (.int 1))) (nilL)))) (op1 negD (conE (.int 1)))))) (seqS (ifS (orB (tru (op2 eqD (varE 4) (conE (.int 4)))) (andB (tru (varE 2)) (tru (op2 eqD (varE 4) (conE (.int 3)))))) (retS (tupE (nilL))) (skipS)) (seqS (asgS 5 (newE (consL (conE (.str "pass")) (nilL)))) (seqS (ifS (andB (tru (varE 2)) (andB (tru (op2 neD (varE 4) (conE (.int 1)))) (tru (op2 neD (op2 ixD (varE 1) (op2 ixD (varE 2) (op1 negD (conE (.int 1))))) (conE (.str "redouble")))))) (exprS (mdE appO (varE 5) (consL (ifE (tru (op2 eqD (op2 ixD (varE 1) (op2 ixD (varE 2) (op1 negD (conE (.int 1))))) (conE (.str "double")))) (conE (.str "redouble")) (conE (.str "double"))) (nilL)))) (skipS)) (retS (opL tupleO (consL (op2 addD (varE 5) (l_may_call_c3)) (nilL)))))))))
def f_l_may_call : Fn := defG 9 2 b_l_may_call
def l_drawn_calls_b1 : DenS :=
  seqS (asgS 6 (callE 2 f_l_may_call (consL (varE 2) (consL (varE 4) (nilL))))) (ifS (tru (varE 6)) (seqS (asgS 7 (callE 3 f_l_draw_k01 (consL (varE 0) (consL (varE 1) (consL (conE (.int 5)) (nilL)))))) (seqS (asgS 8 (ifE (tru (op2 ltD (varE 7) (conE (.int 2)))) (conE (.str "pass")) (callE 3 f_l_pick (consL (varE 0) (consL (varE 1) (consL (slE (varE 6) (noO) (soO (op2 addD (conE (.int 1)) (op2 mulD (conE (.int 2)) (varE 7))))) (nilL))))))) (asgS 4 (op2 addD (varE 4) (tupE (consL (varE 8) (nilL))))))) (skipS))
def l_drawn_calls_l1 : DenS :=
  forS (rng1E (varE 3)) (nmT 5) (l_drawn_calls_b1) [5, 6, 7, 8]
def b_l_drawn_calls : DenS :=
  seqS (asgS 4 (tupE (nilL))) (seqS (l_drawn_calls_l1) (retS (varE 4)))
def f_l_drawn_calls : Fn := defG 9 4 b_l_drawn_calls
def last_bid_b1 : DenS :=
  ifS (tru (op1 (isiD "tuple") (varE 3))) (asgS 1 (varE 2)) (skipS)
def last_bid_l1 : DenS :=
  forS (enumE (varE 0)) (tupT (consT (nmT 2) (consT (nmT 3) (nilT)))) (last_bid_b1) [2, 3]
def b_last_bid : DenS :=
  seqS (asgS 1 (conE .non)) (seqS (last_bid_l1) (retS (varE 1)))
def f_last_bid : Fn := defG 4 1 b_last_bid
def b_is_over : DenS :=
  retS (andE (op2 geD (opL lenO (consL (varE 0) (nilL))) (conE (.int 4))) (op2 eqD (slE (varE 0) (soO (op1 negD (conE (.int 3)))) (noO)) (tupE (consL (conE (.str "pass")) (consL (conE (.str "pass")) (consL (conE (.str "pass")) (nilL)))))))
def f_is_over : Fn := defG 1 1 b_is_over
def contract_of_b1 : DenS :=
  ifS (andB (tru (op1 (isiD "tuple") (varE 7))) (andB (tru (op2 eqD (op2 ixD (varE 7) (conE (.int 1))) (varE 4))) (tru (op2 eqD (op2 modD (op2 subD (varE 2) (varE 6)) (conE (.int 2))) (conE (.int 0)))))) (retS (tupE (consL (varE 3) (consL (varE 4) (consL (varE 5) (consL (op2 modD (op2 addD (varE 0) (varE 6)) (conE (.int 4))) (nilL))))))) (skipS)
def contract_of_l1 : DenS :=
  forS (enumE (varE 1)) (tupT (consT (nmT 6) (consT (nmT 7) (nilT)))) (contract_of_b1) [6, 7]
def b_contract_of : DenS :=
  seqS (asgS 2 (callE 1 f_last_bid (consL (varE 1) (nilL)))) (seqS (ifS (orB (tru (op2 isNonD (varE 2) (conE .non))) (notB (tru (callE 1 f_is_over (consL (varE 1) (nilL)))))) (retS (conE .non)) (skipS)) (seqS (tgtS (tupT (consT (nmT 3) (consT (nmT 4) (nilT)))) (op2 ixD (varE 1) (varE 2))) (seqS (asgS 5 (conE (.int 1))) (seqS (ifS (tru (op2 inD (conE (.str "double")) (slE (varE 1) (soO (varE 2)) (noO)))) (asgS 5 (conE (.int 2))) (skipS)) (seqS (ifS (tru (op2 inD (conE (.str "redouble")) (slE (varE 1) (soO (varE 2)) (noO)))) (asgS 5 (conE (.int 4))) (skipS)) (seqS (contract_of_l1) (retS (conE .non))))))))
def f_contract_of : Fn := defG 8 2 b_contract_of
def last_but_pass_b1 : DenS :=
  ifS (tru (op2 neD (varE 3) (conE (.str "pass")))) (asgS 1 (varE 2)) (skipS)
def last_but_pass_l1 : DenS :=
  forS (enumE (varE 0)) (tupT (consT (nmT 2) (consT (nmT 3) (nilT)))) (last_but_pass_b1) [2, 3]
def b_last_but_pass : DenS :=
  seqS (asgS 1 (conE .non)) (seqS (last_but_pass_l1) (retS (varE 1)))
def f_last_but_pass : Fn := defG 4 1 b_last_but_pass
def all_bids_c1 : Den :=
  compE (rng1E (conE (.int 5))) (nmT 3) (yesB) (tupE (consL (varE 2) (consL (varE 3) (nilL)))) [3]
def all_bids_b1 : DenS :=
  exprS (mdE extO (varE 1) (consL (all_bids_c1) (nilL)))
def all_bids_l1 : DenS :=
  forS (rng2E (conE (.int 1)) (op2 addD (varE 0) (conE (.int 1)))) (nmT 2) (all_bids_b1) [2]
def b_all_bids : DenS :=
  seqS (asgS 1 (newE (nilL))) (seqS (all_bids_l1) (retS (varE 1)))
def f_all_bids : Fn := defG 4 1 b_all_bids
def may_call_c1 : Den :=
  compE (itE (callE 1 f_all_bids (consL (varE 0) (nilL)))) (nmT 5) (orB (tru (op2 isNonD (varE 4) (conE .non))) (tru (op2 gtD (varE 5) (op2 ixD (varE 1) (varE 4))))) (varE 5) [5]
def b_may_call : DenS :=
  seqS (ifS (tru (callE 1 f_is_over (consL (varE 1) (nilL)))) (retS (tupE (nilL))) (skipS)) (seqS (asgS 2 (newE (consL (conE (.str "pass")) (nilL)))) (seqS (tgtS (tupT (consT (nmT 3) (consT (nmT 4) (nilT)))) (tupE (consL (callE 1 f_last_but_pass (consL (varE 1) (nilL))) (consL (callE 1 f_last_bid (consL (varE 1) (nilL))) (nilL))))) (seqS (ifS (andB (tru (op2 notNonD (varE 3) (conE .non))) (tru (op2 eqD (op2 modD (op2 subD (opL lenO (consL (varE 1) (nilL))) (varE 3)) (conE (.int 2))) (conE (.int 1))))) (ifS (tru (op1 (isiD "tuple") (op2 ixD (varE 1) (varE 3)))) (exprS (mdE appO (varE 2) (consL (conE (.str "double")) (nilL)))) (ifS (tru (op2 eqD (op2 ixD (varE 1) (varE 3)) (conE (.str "double")))) (exprS (mdE appO (varE 2) (consL (conE (.str "redouble")) (nilL)))) (skipS))) (skipS)) (retS (opL tupleO (consL (op2 addD (varE 2) (may_call_c1)) (nilL)))))))
def f_may_call : Fn := defG 6 2 b_may_call
def l_contract_c1 : Den :=
  compE (enumE (varE 1)) (tupT (consT (nmT 8) (consT (nmT 9) (nilT)))) (tru (op1 (isiD "tuple") (varE 9))) (varE 8) [8, 9]
def l_contract_c2 : Den :=
  compE (itE (varE 2)) (nmT 8) (andB (tru (op2 eqD (op2 ixD (op2 ixD (varE 1) (varE 8)) (conE (.int 1))) (varE 5))) (tru (op2 eqD (op2 modD (varE 8) (conE (.int 2))) (op2 modD (varE 3) (conE (.int 2)))))) (varE 8) [8]
def b_l_contract : DenS :=
  seqS (asgS 2 (l_contract_c1)) (seqS (ifS (orB (notB (tru (varE 2))) (tru (op2 neD (slE (varE 1) (soO (op1 negD (conE (.int 3)))) (noO)) (tupE (consL (conE (.str "pass")) (consL (conE (.str "pass")) (consL (conE (.str "pass")) (nilL)))))))) (retS (conE .non)) (skipS)) (seqS (asgS 3 (op2 ixD (varE 2) (op1 negD (conE (.int 1))))) (seqS (tgtS (tupT (consT (nmT 4) (consT (nmT 5) (nilT)))) (op2 ixD (varE 1) (varE 3))) (seqS (asgS 6 (op2 addD (op2 addD (conE (.int 1)) (mcE countO (slE (varE 1) (soO (varE 3)) (noO)) (consL (conE (.str "double")) (nilL)))) (op2 mulD (conE (.int 2)) (mcE countO (slE (varE 1) (soO (varE 3)) (noO)) (consL (conE (.str "redouble")) (nilL)))))) (seqS (asgS 7 (l_contract_c2)) (retS (tupE (consL (varE 4) (consL (varE 5) (consL (varE 6) (consL (op2 modD (op2 addD (varE 0) (op2 ixD (varE 7) (conE (.int 0)))) (conE (.int 4))) (nilL))))))))))))
def f_l_contract : Fn := defG 10 2 b_l_contract

/-! ### calls -/
inductive Cl where
  | pas | dbl | rdb | bid (l s : Int)
deriving DecidableEq
def clD : Cl → D
  | .pas => .str "pass"
  | .dbl => .str "double"
  | .rdb => .str "redouble"
  | .bid l s => .tup [.int l, .int s]
def Cl.isB : Cl → Bool
  | .bid _ _ => true
  | _ => false
def Cl.np (c : Cl) : Bool := !decide (c = .pas)
def rowD (cs : List Cl) : D := .tup (cs.map clD)
section
variable {st : Store} {c : Cl}
theorem ne_pass : neD (clD c) (.str "pass") st = some (.bl c.np) := by cases c <;> rfl
theorem is_tupC : isiD "tuple" (clD c) st = some (.bl c.isB) := by
  cases c with
  | bid l s => exact is_tup_tuple
  | _ => exact is_str_tuple
theorem lo_clD {n : Nat} : lo n (clD c) = true := by cases c <;> rfl
theorem fit_clD {n : Nat} : fits (clD c) (n + 1) = true := by cases c <;> rfl
theorem eqv_clD {d : Cl} : D.eqv (clD c) (clD d) = decide (c = d) := by
  cases c <;> cases d
  case bid.bid a b c d =>
    show ((decide (a = c)) && (decide (b = d) && true)) = _
    by_cases h1 : a = c <;> by_cases h2 : b = d <;> simp [h1, h2]
  all_goals first | rfl | decide +kernel
end
theorem lo_row {n : Nat} {cs : List Cl} : loL n (cs.map clD) = true := lo_list fun x hx => by
  obtain ⟨c, _, rfl⟩ := List.mem_map.mp hx
  exact lo_clD
theorem fit_row {n : Nat} : ∀ {cs : List Cl}, fitsL (cs.map clD) (n + 1) = true
  | [] => rfl
  | c :: cs => by
    show (fits (clD c) (n + 1) && fitsL (cs.map clD) (n + 1)) = true
    rw [fit_clD, fit_row]
    rfl
theorem eqvL_row : ∀ {cs ds : List Cl}, eqvL (cs.map clD) (ds.map clD) = decide (cs = ds)
  | [], [] => rfl
  | [], d :: ds => by simp
  | c :: cs, [] => by simp
  | c :: cs, d :: ds => by
    show (D.eqv (clD c) (clD d) && eqvL (cs.map clD) (ds.map clD)) = _
    rw [eqv_clD, eqvL_row]
    by_cases h1 : c = d <;> by_cases h2 : cs = ds <;> simp [h1, h2]
/-- the places of such items -/
def ixs (p : Cl → Bool) (cs : List Cl) : List Nat := (cs.zipIdx.filter fun q => p q.1).map (·.2)
theorem ixs_nil {p : Cl → Bool} : ixs p [] = [] := rfl
theorem ixs_snoc {p : Cl → Bool} {cs : List Cl} {c : Cl} : ixs p (cs ++ [c]) = ixs p cs ++ if p c then [cs.length] else [] := by
  unfold ixs
  rw [List.zipIdx_append, List.filter_append, List.map_append]
  congr 1
  simp [List.zipIdx]
  split <;> simp [*]
def oN : Option Nat → D
  | none => .non
  | some n => .int n
def lastIx (p : Cl → Bool) (cs : List Cl) : Option Nat := (ixs p cs).getLast?
theorem last_snoc {p : Cl → Bool} {cs : List Cl} {c : Cl} : lastIx p (cs ++ [c]) = if p c then some cs.length else lastIx p cs := by
  unfold lastIx
  rw [ixs_snoc]
  split <;> simp
theorem take_snoc {A : Type} {cs : List A} {i : Nat} {c : A} (h : cs[i]? = some c) : cs.take (i + 1) = cs.take i ++ [c] := by
  obtain ⟨hi, e⟩ := List.getElem?_eq_some_iff.mp h
  rw [List.take_succ, h]
  rfl
theorem row_at {cs : List Cl} {i : Nat} {x : D} (h : (pairsN (cs.map clD))[i]? = some x) : ∃ c, cs[i]? = some c ∧ x = .ltp [.int i, clD c] := by
  obtain ⟨y, e, rfl⟩ := pairsN_at h
  rw [List.getElem?_map] at e
  cases hc : cs[i]? with
  | none => rw [hc] at e; cases e
  | some c =>
    rw [hc] at e
    cases e
    exact ⟨c, rfl, rfl⟩
@[simp] theorem ap_enum (f : Den) (ρ : Env) (st : Store) : enumE f ρ st = (f ρ st).bind fun d s => Res.of (enumD d s) s := Eq.trans rfl rfl
@[simp] theorem enum_tup {xs : List D} {st : Store} : enumD (.tup xs) st = some ⟨pairsN xs, none⟩ := Eq.trans rfl rfl
@[simp] theorem lo_oN {n : Nat} {o : Option Nat} : lo n (oN o) = true := by cases o <;> rfl
theorem last_bid_ok (cs : List Cl) (st : Store) : f_last_bid [rowD cs] st = .ok (oN (lastIx Cl.isB cs)) st := by
  obtain ⟨ρ', st', ⟨e1, e2⟩, e⟩ := for_pure (tg := tupT (consT (nmT 2) (consT (nmT 3) (nilT)))) (ks := [2, 3]) (ρ := [some (rowD cs), some .non, none, none]) (st := st) (body := last_bid_b1) (l := pairsN (cs.map clD))
    (fun i ρ s => ρ = [some (rowD cs), some (oN (lastIx Cl.isB (cs.take i))), none, none] ∧ s = st) ⟨rfl, rfl⟩ (fun i x ρ s hx ⟨e1, e2⟩ => by
      obtain ⟨c, hc, rfl⟩ := row_at hx
      subst e1 e2
      refine ⟨_, _, ⟨rfl, rfl⟩, fun k => ?_⟩
      have hi := (List.getElem?_eq_some_iff.mp hc).1
      rw [take_snoc hc, last_snoc]
      cases hb : c.isB <;> simp (disch := first | assumption | omega | (simp only [List.length_cons, List.length_append, List.length_map, List.length_nil, List.length_set, List.length_replicate, rep_length, Nat.zero_add, Nat.mul_one]; omega) | (refine mul_ok ?_ ?_ <;> omega) | (refine cdiv_ok ?_ ?_ <;> omega) | (simp; done) | fail) [last_bid_b1, is_tupC, hb, oN, Nat.min_eq_left (Nat.le_of_lt hi)])
  subst e1 e2
  rw [pairsN_length, List.length_map, List.take_length] at e
  unfold rowD at e
  simp (disch := first | assumption | omega | (simp only [List.length_cons, List.length_append, List.length_map, List.length_nil, List.length_set, List.length_replicate, rep_length, Nat.zero_add, Nat.mul_one]; omega) | (refine mul_ok ?_ ?_ <;> omega) | (refine cdiv_ok ?_ ?_ <;> omega) | (simp; done) | fail) [f_last_bid, b_last_bid, last_bid_l1, ap_for, rowD, e]
theorem last_np_ok (cs : List Cl) (st : Store) : f_last_but_pass [rowD cs] st = .ok (oN (lastIx Cl.np cs)) st := by
  obtain ⟨ρ', st', ⟨e1, e2⟩, e⟩ := for_pure (tg := tupT (consT (nmT 2) (consT (nmT 3) (nilT)))) (ks := [2, 3]) (ρ := [some (rowD cs), some .non, none, none]) (st := st) (body := last_but_pass_b1) (l := pairsN (cs.map clD))
    (fun i ρ s => ρ = [some (rowD cs), some (oN (lastIx Cl.np (cs.take i))), none, none] ∧ s = st) ⟨rfl, rfl⟩ (fun i x ρ s hx ⟨e1, e2⟩ => by
      obtain ⟨c, hc, rfl⟩ := row_at hx
      subst e1 e2
      refine ⟨_, _, ⟨rfl, rfl⟩, fun k => ?_⟩
      have hi := (List.getElem?_eq_some_iff.mp hc).1
      rw [take_snoc hc, last_snoc]
      cases hb : c.np <;> simp (disch := first | assumption | omega | (simp only [List.length_cons, List.length_append, List.length_map, List.length_nil, List.length_set, List.length_replicate, rep_length, Nat.zero_add, Nat.mul_one]; omega) | (refine mul_ok ?_ ?_ <;> omega) | (refine cdiv_ok ?_ ?_ <;> omega) | (simp; done) | fail) [last_but_pass_b1, ne_pass, hb, oN, Nat.min_eq_left (Nat.le_of_lt hi)])
  subst e1 e2
  rw [pairsN_length, List.length_map, List.take_length] at e
  unfold rowD at e
  simp (disch := first | assumption | omega | (simp only [List.length_cons, List.length_append, List.length_map, List.length_nil, List.length_set, List.length_replicate, rep_length, Nat.zero_add, Nat.mul_one]; omega) | (refine mul_ok ?_ ?_ <;> omega) | (refine cdiv_ok ?_ ?_ <;> omega) | (simp; done) | fail) [f_last_but_pass, b_last_but_pass, last_but_pass_l1, ap_for, rowD, e]
/-! ### over -/
def tail3 (cs : List Cl) : List Cl := cs.drop (cs.length - 3)
def over (cs : List Cl) : Bool := decide (4 ≤ cs.length) && decide (tail3 cs = [.pas, .pas, .pas])
theorem cut_tail3 {xs : List D} : cutL xs (some (-3)) none = xs.drop (xs.length - 3) := by
  show (xs.drop (if (-3 : Int) < 0 then ((-3 : Int) + (xs.length : Int)).toNat else min (-3 : Int).toNat xs.length)).take (xs.length - (if (-3 : Int) < 0 then ((-3 : Int) + (xs.length : Int)).toNat else min (-3 : Int).toNat xs.length)) = _
  rw [if_pos (by decide)]
  have e : ((-3 : Int) + (xs.length : Int)).toNat = xs.length - 3 := by omega
  rw [e, List.take_of_length_le (by simp)]
theorem eq_tail3 {cs : List Cl} {st : Store} : eqD (.tup ((tail3 cs).map clD)) (.tup [.str "pass", .str "pass", .str "pass"]) st = some (.bl (decide (tail3 cs = [.pas, .pas, .pas]))) := by
  have := eqvL_row (cs := tail3 cs) (ds := [.pas, .pas, .pas])
  rw [eq_tup, fit_row (n := 58)]
  show some (D.bl (eqvL ((tail3 cs).map clD) ([Cl.pas, .pas, .pas].map clD))) = _
  rw [this]
theorem over_ok (cs : List Cl) (st : Store) : f_is_over [rowD cs] st = .ok (.bl (over cs)) st := by
  have e3 : slD (.tup (cs.map clD)) (some (-3)) none st = some (.tup ((tail3 cs).map clD)) := by
    show some (D.tup (cutL (cs.map clD) (some (-3)) none)) = _
    rw [cut_tail3, List.length_map, ← List.map_drop]
    rfl
  by_cases h4 : 4 ≤ cs.length
  · have : (4 : Int) ≤ (cs.length : Int) := by omega
    simp (disch := first | assumption | omega | (simp only [List.length_cons, List.length_append, List.length_map, List.length_nil, List.length_set, List.length_replicate, rep_length, Nat.zero_add, Nat.mul_one]; omega) | (refine mul_ok ?_ ?_ <;> omega) | (refine cdiv_ok ?_ ?_ <;> omega) | (simp; done) | fail) [f_is_over, b_is_over, rowD, e3, eq_tail3, over, h4, this, -sl_tup, -eq_tup]
  · have : ¬ (4 : Int) ≤ (cs.length : Int) := by omega
    simp (disch := first | assumption | omega | (simp only [List.length_cons, List.length_append, List.length_map, List.length_nil, List.length_set, List.length_replicate, rep_length, Nat.zero_add, Nat.mul_one]; omega) | (refine mul_ok ?_ ?_ <;> omega) | (refine cdiv_ok ?_ ?_ <;> omega) | (simp; done) | fail) [f_is_over, b_is_over, rowD, e3, eq_tail3, over, h4, this, -sl_tup, -eq_tup]
/-! ### all bids -/
def levC (l : Int) : List Cl := (List.range 5).map fun (k : Nat) => .bid l (k : Int)
def bidsC (n : Nat) : List Cl := (List.range n).flatMap fun (i : Nat) => levC (1 + (i : Int))
theorem bids_succ (n : Nat) : bidsC (n + 1) = bidsC n ++ levC (1 + (n : Int)) := by
  unfold bidsC
  rw [List.range_succ, List.flatMap_append]
  simp
theorem bids_length : ∀ n, (bidsC n).length = 5 * n
  | 0 => rfl
  | n + 1 => by rw [bids_succ, List.length_append, bids_length n]; simp [levC]; omega
theorem lev_comp {l : Int} {ρw : Env} (st : Store) (h2 : ρw[2]? = some (some (.int l))) (hlen : 3 < ρw.length) : compGo ⟨rangeD 0 5, none⟩ (nmT 3) yesB (tupE (consL (varE 2) (consL (varE 3) (nilL)))) ρw st (rangeD 0 5) [] (st ++ [.lst []]) = .ok (.lst ((levC l).map clD)) st := by
  have := comp_map (tg := nmT 3) (elt := tupE (consL (varE 2) (consL (varE 3) (nilL)))) (ρw := ρw) (s0 := st) (l := rangeD 0 5) (fun d => .tup [.int l, d]) (fun x hx s1 => by
    refine ⟨_, rfl, ?_⟩
    have e2 : (ρw.set 3 (some x))[2]? = some (some (.int l)) := by rw [List.getElem?_set_ne (by decide)]; exact h2
    have e3 : (ρw.set 3 (some x))[3]? = some (some x) := by rw [List.getElem?_set_self hlen]
    simp only [ap_tup, ap_cons, ap_nil, ap_var, e2, e3, atE_some, bind_ok']
    rw [if_pos (by simp)]) (lo_list fun x hx => by
      obtain ⟨y, hy, rfl⟩ := List.mem_map.mp hx
      unfold rangeD at hy
      obtain ⟨i, _, rfl⟩ := List.mem_map.mp hy
      rfl) (by simp)
  rw [this]
  rfl
theorem all_bids_ok {n : Int} (st : Store) (h : 0 ≤ n ∧ n ≤ 1000) : f_all_bids [.int n] st = .ok (.lst ((bidsC n.toNat).map clD)) st := by
  obtain ⟨ρ', st', ⟨e1, e2⟩, e⟩ := for_pure (tg := nmT 2) (ks := [2]) (ρ := [some (.int n), some (.ref st.length), none, none]) (st := st ++ [.lst []]) (body := all_bids_b1) (l := rangeD 1 n.toNat)
    (fun i ρ s => ρ = [some (.int n), some (.ref st.length), none, none] ∧ s = st ++ [.lst ((bidsC i).map clD)]) ⟨rfl, rfl⟩ (fun i x ρ s hx ⟨e1, e2⟩ => by
      obtain ⟨hi, rfl⟩ := range_at hx
      subst e1 e2
      refine ⟨_, _, ⟨rfl, rfl⟩, fun k => ?_⟩
      have hc : all_bids_c1 [some (.int n), some (.ref st.length), some (.int (1 + (i : Int))), none] (st ++ [.lst ((bidsC i).map clD)]) = .ok (.lst ((levC (1 + (i : Int))).map clD)) (st ++ [.lst ((bidsC i).map clD)]) := by
        unfold all_bids_c1
        rw [ap_comp]
        simp (disch := first | assumption | omega | (simp only [List.length_cons, List.length_append, List.length_map, List.length_nil, List.length_set, List.length_replicate, rep_length, Nat.zero_add, Nat.mul_one]; omega) | (refine mul_ok ?_ ?_ <;> omega) | (refine cdiv_ok ?_ ?_ <;> omega) | (simp; done) | fail)
        have := lev_comp (l := 1 + (i : Int)) (ρw := [some (.int n), some (.ref st.length), some (.int (1 + (i : Int))), none]) (st ++ [.lst ((bidsC i).map clD)]) rfl (by simp)
        simpa using this
      have l1 := bids_length i
      have l2 : (levC (1 + (i : Int))).length = 5 := by simp [levC]
      simp (disch := first | assumption | omega | (simp only [List.length_cons, List.length_append, List.length_map, List.length_nil, List.length_set, List.length_replicate, rep_length, Nat.zero_add, Nat.mul_one]; omega) | (refine mul_ok ?_ ?_ <;> omega) | (refine cdiv_ok ?_ ?_ <;> omega) | (simp; done) | fail) [all_bids_b1, hc, bids_succ, List.map_append, l1, l2])
  subst e1 e2
  rw [range_length] at e
  have e0 : (n + 1 - 1).toNat = n.toNat := by omega
  simp (disch := first | assumption | omega | (simp only [List.length_cons, List.length_append, List.length_map, List.length_nil, List.length_set, List.length_replicate, rep_length, Nat.zero_add, Nat.mul_one]; omega) | (refine mul_ok ?_ ?_ <;> omega) | (refine cdiv_ok ?_ ?_ <;> omega) | (simp; done) | fail) [f_all_bids, b_all_bids, all_bids_l1, ap_for, e]
  exact leave_new lo_row
/-! ### what may be called -/
def gtB (a b c d : Int) : Bool := if a = c then (if b = d then false else decide (d < b)) else decide (c < a)
def gtC : Cl → Cl → Bool
  | .bid a b, .bid c d => gtB a b c d
  | _, _ => false
theorem gt_bid {a b c d : Int} {st : Store} : gtD (clD (.bid a b)) (clD (.bid c d)) st = some (.bl (gtB a b c d)) := by
  have e : ordOk (clD (.bid a b)) (clD (.bid c d)) = true := by
    show ((decide (a = c) || true) && ((decide (b = d) || true) && true)) = true
    simp
  have e2 : dgt (clD (.bid a b)) (clD (.bid c d)) = gtB a b c d := by
    show (if decide (a = c) = true then (if decide (b = d) = true then false else decide (d < b)) else decide (c < a)) = _
    unfold gtB
    simp
  show (if (true && true && ordOk (clD (.bid a b)) (clD (.bid c d))) = true then some (D.bl (dgt (clD (.bid a b)) (clD (.bid c d)))) else none) = _
  rw [e, e2]
  rfl
theorem isB_of {c : Cl} (h : c.isB = true) : ∃ l s, c = .bid l s := by
  cases c with
  | bid l s => exact ⟨l, s, rfl⟩
  | _ => cases h
theorem mem_bids {n : Nat} {c : Cl} (h : c ∈ bidsC n) : ∃ l s : Int, c = .bid l s ∧ 1 ≤ l ∧ l ≤ n ∧ 0 ≤ s ∧ s ≤ 4 := by
  unfold bidsC at h
  obtain ⟨i, hi, h⟩ := List.mem_flatMap.mp h
  unfold levC at h
  obtain ⟨k, hk, rfl⟩ := List.mem_map.mp h
  have := List.mem_range.mp hi
  have := List.mem_range.mp hk
  exact ⟨_, _, rfl, by omega, by omega, by omega, by omega⟩
theorem ixs_mem {p : Cl → Bool} {cs : List Cl} {k : Nat} (h : k ∈ ixs p cs) : ∃ c, cs[k]? = some c ∧ p c = true := by
  unfold ixs at h
  obtain ⟨⟨c, j⟩, h1, rfl⟩ := List.mem_map.mp h
  obtain ⟨h2, h3⟩ := List.mem_filter.mp h1
  exact ⟨c, by simpa using List.mem_zipIdx_iff_getElem?.mp h2, h3⟩
theorem last_at {p : Cl → Bool} {cs : List Cl} {k : Nat} (h : lastIx p cs = some k) : ∃ c, cs[k]? = some c ∧ p c = true := ixs_mem (List.mem_of_getLast? h)
/-- does a bid beat the last one of a row -/
def beatsC (cs : List Cl) (c : Cl) : Bool := match (lastIx Cl.isB cs).bind fun k => cs[k]? with
  | none => true
  | some b => gtC c b
/-- what the double's turn gives -/
def twiceC (cs : List Cl) : List Cl := match lastIx Cl.np cs with
  | none => []
  | some k => if ((cs.length : Int) - (k : Int)) % 2 = 1 then (match cs[k]? with
    | some (.bid _ _) => [.dbl]
    | some .dbl => [.rdb]
    | _ => []) else []
def mayC (n : Nat) (cs : List Cl) : List Cl := if over cs then [] else .pas :: (twiceC cs ++ (bidsC n).filter (beatsC cs))
theorem may_c1_ok {n : Int} {cs : List Cl} {f l : Option D} (st : Store) (h : 0 ≤ n ∧ n ≤ 1000) : may_call_c1 [some (.int n), some (rowD cs), f, l, some (oN (lastIx Cl.isB cs)), none] st = .ok (.lst (((bidsC n.toNat).filter (beatsC cs)).map clD)) st := by
  unfold may_call_c1
  rw [ap_comp]
  have := comp_if (tg := nmT 5) (tt := orB (tru (op2 isNonD (varE 4) (conE .non))) (tru (op2 gtD (varE 5) (op2 ixD (varE 1) (varE 4))))) (elt := varE 5) (ρw := [some (.int n), some (rowD cs), f, l, some (oN (lastIx Cl.isB cs)), none]) (s0 := st) (enc := clD) (l := bidsC n.toNat) (l' := (bidsC n.toNat).map clD) (l0 := []) (beatsC cs) clD (fun x hx s1 => by
    obtain ⟨a, b, rfl, _⟩ := mem_bids hx
    refine ⟨_, rfl, ?_, fun _ => by simp (disch := first | assumption | omega | (simp only [List.length_cons, List.length_append, List.length_map, List.length_nil, List.length_set, List.length_replicate, rep_length, Nat.zero_add, Nat.mul_one]; omega) | (refine mul_ok ?_ ?_ <;> omega) | (refine cdiv_ok ?_ ?_ <;> omega) | (simp; done) | fail)⟩
    cases hk : lastIx Cl.isB cs with
    | none => simp (disch := first | assumption | omega | (simp only [List.length_cons, List.length_append, List.length_map, List.length_nil, List.length_set, List.length_replicate, rep_length, Nat.zero_add, Nat.mul_one]; omega) | (refine mul_ok ?_ ?_ <;> omega) | (refine cdiv_ok ?_ ?_ <;> omega) | (simp; done) | fail) [beatsC, hk, oN]
    | some k =>
      obtain ⟨c, hc, hb⟩ := last_at hk
      obtain ⟨c1, c2, rfl⟩ := isB_of hb
      have hat : atI (cs.map clD) (k : Int) = some (clD (.bid c1 c2)) := atI_at (by rw [List.getElem?_map, hc]; rfl)
      simp (disch := first | assumption | omega | (simp only [List.length_cons, List.length_append, List.length_map, List.length_nil, List.length_set, List.length_replicate, rep_length, Nat.zero_add, Nat.mul_one]; omega) | (refine mul_ok ?_ ?_ <;> omega) | (refine cdiv_ok ?_ ?_ <;> omega) | (simp; done) | fail) [beatsC, hk, oN, rowD, hat, gt_bid, hc, gtC]) (fun x _ => lo_clD) (by rw [bids_length]; omega)
  simp (disch := first | assumption | omega | (simp only [List.length_cons, List.length_append, List.length_map, List.length_nil, List.length_set, List.length_replicate, rep_length, Nat.zero_add, Nat.mul_one]; omega) | (refine mul_ok ?_ ?_ <;> omega) | (refine cdiv_ok ?_ ?_ <;> omega) | (simp; done) | fail) [all_bids_ok st h]
  exact this
def catK (xs ys : List D) : Option D := if xs.length + ys.length ≤ sizeLine then some (.lst (xs ++ ys)) else none
@[simp] theorem catK_ok {xs ys : List D} (h : xs.length + ys.length ≤ 16777216) : catK xs ys = some (.lst (xs ++ ys)) := if_pos (by rw [size_line]; exact h)
@[simp] theorem add_refL {n : Nat} {ys : List D} {st : Store} : addD (.ref n) (.lst ys) st = (cellL st (.ref n)).bind fun p => catK p.2 ys := by
  show (match viewL st (.ref n), viewL st (.lst ys) with | some xs, some ys => if xs.length + ys.length ≤ sizeLine then some (D.lst (xs ++ ys)) else none | _, _ => none) = _
  rw [vl_ref, vl_lst]
  cases cellL st (.ref n) <;> rfl
@[simp] theorem oN_none : oN none = .non := Eq.trans rfl rfl
@[simp] theorem oN_some {k : Nat} : oN (some k) = .int k := Eq.trans rfl rfl
@[simp] theorem lo_rowD {n : Nat} {cs : List Cl} : lo n (rowD cs) = true := lo_row
@[simp] theorem len_row {cs : List Cl} {st : Store} : lenO [rowD cs] st = some (.int cs.length) := by
  show some (D.int (cs.map clD).length) = _
  rw [List.length_map]
theorem ix_row {cs : List Cl} {k : Nat} {c : Cl} {st : Store} (h : cs[k]? = some c) : ixD (rowD cs) (.int (k : Int)) st = some (clD c) := by
  show atI (cs.map clD) (k : Int) = _
  exact atI_at (by rw [List.getElem?_map, h]; rfl)
theorem str_rd : ¬ (Str.ofString "redouble" = Str.ofString "double") := by decide +kernel
theorem str_dr : ¬ (Str.ofString "double" = Str.ofString "redouble") := by decide +kernel
theorem str_pd : ¬ (Str.ofString "pass" = Str.ofString "double") := by decide +kernel
theorem str_pr : ¬ (Str.ofString "pass" = Str.ofString "redouble") := by decide +kernel
theorem may_ok {n : Int} (cs : List Cl) (st : Store) (h : 0 ≤ n ∧ n ≤ 1000) : f_may_call [.int n, rowD cs] st = .ok (rowD (mayC n.toNat cs)) st := by
  have ho := over_ok cs st
  by_cases hov : over cs = true
  · simp (disch := first | assumption | omega | (simp only [List.length_cons, List.length_append, List.length_map, List.length_nil, List.length_set, List.length_replicate, rep_length, Nat.zero_add, Nat.mul_one]; omega) | (refine mul_ok ?_ ?_ <;> omega) | (refine cdiv_ok ?_ ?_ <;> omega) | (simp; done) | fail) [f_may_call, b_may_call, ho, hov, mayC]
    rfl
  · have hov : over cs = false := by simpa using hov
    have hl := last_np_ok cs (st ++ [Cell.lst [.str "pass"]])
    have hb := last_bid_ok cs (st ++ [Cell.lst [.str "pass"]])
    have hfl : ((bidsC n.toNat).filter (beatsC cs)).length ≤ 5000 := by
      have := List.length_filter_le (beatsC cs) (bidsC n.toNat)
      rw [bids_length] at this
      omega
    have hc : ∀ (f l : Option D) (q : Store), may_call_c1 [some (.int n), some (rowD cs), f, l, some (oN (lastIx Cl.isB cs)), none] q = .ok (.lst (((bidsC n.toNat).filter (beatsC cs)).map clD)) q := fun f l q => may_c1_ok q h
    have mk : ∀ tw : List Cl, (D.tup (D.str "pass" :: (tw.map clD ++ ((bidsC n.toNat).filter (beatsC cs)).map clD))) = rowD (.pas :: (tw ++ (bidsC n.toNat).filter (beatsC cs))) := fun tw => by
      unfold rowD
      rw [List.map_cons, List.map_append]
      rfl
    have e0 := mk []
    have e1 := mk [.dbl]
    have e2 := mk [.rdb]
    simp only [List.map_cons, List.map_nil, List.nil_append, List.cons_append, clD] at e0 e1 e2
    unfold mayC twiceC
    rw [hov]
    cases hk : lastIx Cl.np cs with
    | none =>
      rw [hk] at hl
      simp (disch := first | assumption | omega | (simp only [List.length_cons, List.length_append, List.length_map, List.length_nil, List.length_set, List.length_replicate, rep_length, Nat.zero_add, Nat.mul_one]; omega) | (refine mul_ok ?_ ?_ <;> omega) | (refine cdiv_ok ?_ ?_ <;> omega) | (simp; done) | fail) [f_may_call, b_may_call, ho, hov, hl, hb, hc, e0]
    | some k =>
      obtain ⟨c, hcc, hnp⟩ := last_at hk
      rw [hk] at hl
      have hix : ∀ q, ixD (rowD cs) (.int (k : Int)) q = some (clD c) := fun q => ix_row hcc
      by_cases hm : ((cs.length : Int) - (k : Int)) % 2 = 1
      · cases c with
        | pas => cases hnp
        | bid a b =>
          simp (disch := first | assumption | omega | (simp only [List.length_cons, List.length_append, List.length_map, List.length_nil, List.length_set, List.length_replicate, rep_length, Nat.zero_add, Nat.mul_one]; omega) | (refine mul_ok ?_ ?_ <;> omega) | (refine cdiv_ok ?_ ?_ <;> omega) | (simp; done) | fail) [f_may_call, b_may_call, ho, hov, hl, hb, hc, hix, hm, hcc, is_tupC, Cl.isB, clD, e0, e1, e2, str_rd]
        | dbl =>
          simp (disch := first | assumption | omega | (simp only [List.length_cons, List.length_append, List.length_map, List.length_nil, List.length_set, List.length_replicate, rep_length, Nat.zero_add, Nat.mul_one]; omega) | (refine mul_ok ?_ ?_ <;> omega) | (refine cdiv_ok ?_ ?_ <;> omega) | (simp; done) | fail) [f_may_call, b_may_call, ho, hov, hl, hb, hc, hix, hm, hcc, is_tupC, Cl.isB, clD, e0, e1, e2, str_rd]
        | rdb =>
          simp (disch := first | assumption | omega | (simp only [List.length_cons, List.length_append, List.length_map, List.length_nil, List.length_set, List.length_replicate, rep_length, Nat.zero_add, Nat.mul_one]; omega) | (refine mul_ok ?_ ?_ <;> omega) | (refine cdiv_ok ?_ ?_ <;> omega) | (simp; done) | fail) [f_may_call, b_may_call, ho, hov, hl, hb, hc, hix, hm, hcc, is_tupC, Cl.isB, clD, e0, e1, e2, str_rd]
      · simp (disch := first | assumption | omega | (simp only [List.length_cons, List.length_append, List.length_map, List.length_nil, List.length_set, List.length_replicate, rep_length, Nat.zero_add, Nat.mul_one]; omega) | (refine mul_ok ?_ ?_ <;> omega) | (refine cdiv_ok ?_ ?_ <;> omega) | (simp; done) | fail) [f_may_call, b_may_call, ho, hov, hl, hb, hc, hm, hcc, e0]
end DL

namespace DL
open PySem PySem.Spec PyProof.Rows L2

/-! ### the law's own may_call -/
theorem pairsN_row (cs : List Cl) : pairsN (cs.map clD) = cs.zipIdx.map fun q => .ltp [.int q.2, clD q.1] := by
  unfold pairsN
  rw [List.zipIdx_map, List.map_map]
  rfl
theorem atI_last {A : Type} {xs : List A} {x : A} (h : xs.getLast? = some x) : atI xs (-1) = some x := by
  have hne : xs ≠ [] := by rintro rfl; cases h
  have hp := List.length_pos_iff.mpr hne
  refine atI_neg (by decide) (by omega) ?_
  rw [List.getLast?_eq_getElem?] at h
  rw [show ((-1 : Int) + (xs.length : Int)).toNat = xs.length - 1 by omega]
  exact h
theorem lmay_c1_ok {n : Option D} {cs : List Cl} (st : Store) (hl : cs.length ≤ 10000) : l_may_call_c1 [n, some (rowD cs), none, none, none, none, none, none, none] st = .ok (.lst ((ixs Cl.np cs).map fun k => .int (k : Nat))) st := by
  have := comp_if (tg := tupT (consT (nmT 6) (consT (nmT 7) (nilT)))) (tt := tru (op2 neD (varE 7) (conE (.str "pass")))) (elt := varE 6) (ρw := [n, some (rowD cs), none, none, none, none, none, none, none]) (s0 := st) (enc := fun q : Cl × Nat => D.ltp [.int q.2, clD q.1]) (l := cs.zipIdx) (l' := pairsN (cs.map clD)) (l0 := []) (fun q => q.1.np) (fun q => .int q.2)
    (fun x _ s1 => ⟨_, rfl, by simp (disch := first | assumption | omega | (simp only [List.length_cons, List.length_append, List.length_map, List.length_nil, List.length_set, List.length_replicate, rep_length, Nat.zero_add, Nat.mul_one]; omega) | (refine mul_ok ?_ ?_ <;> omega) | (refine cdiv_ok ?_ ?_ <;> omega) | (simp; done) | fail) [ne_pass], fun _ => by simp (disch := first | assumption | omega | (simp only [List.length_cons, List.length_append, List.length_map, List.length_nil, List.length_set, List.length_replicate, rep_length, Nat.zero_add, Nat.mul_one]; omega) | (refine mul_ok ?_ ?_ <;> omega) | (refine cdiv_ok ?_ ?_ <;> omega) | (simp; done) | fail)⟩) (fun _ _ => rfl) (by simp; omega)
  unfold l_may_call_c1
  rw [ap_comp]
  simp (disch := first | assumption | omega | (simp only [List.length_cons, List.length_append, List.length_map, List.length_nil, List.length_set, List.length_replicate, rep_length, Nat.zero_add, Nat.mul_one]; omega) | (refine mul_ok ?_ ?_ <;> omega) | (refine cdiv_ok ?_ ?_ <;> omega) | (simp; done) | fail) [rowD]
  rw [← pairsN_row] at this
  unfold rowD at this
  rw [this]
  unfold ixs
  rw [List.map_map]
  rfl
theorem lmay_c2_ok {n s : Option D} {cs : List Cl} (st : Store) (hl : cs.length ≤ 10000) : l_may_call_c2 [n, some (rowD cs), s, none, none, none, none, none, none] st = .ok (.lst ((cs.filter Cl.isB).map clD)) st := by
  have := comp_if (tg := nmT 7) (tt := tru (op1 (isiD "tuple") (varE 7))) (elt := varE 7) (ρw := [n, some (rowD cs), s, none, none, none, none, none, none]) (s0 := st) (enc := clD) (l := cs) (l' := cs.map clD) (l0 := []) Cl.isB clD
    (fun x _ s1 => ⟨_, rfl, by simp (disch := first | assumption | omega | (simp only [List.length_cons, List.length_append, List.length_map, List.length_nil, List.length_set, List.length_replicate, rep_length, Nat.zero_add, Nat.mul_one]; omega) | (refine mul_ok ?_ ?_ <;> omega) | (refine cdiv_ok ?_ ?_ <;> omega) | (simp; done) | fail) [is_tupC], fun _ => by simp (disch := first | assumption | omega | (simp only [List.length_cons, List.length_append, List.length_map, List.length_nil, List.length_set, List.length_replicate, rep_length, Nat.zero_add, Nat.mul_one]; omega) | (refine mul_ok ?_ ?_ <;> omega) | (refine cdiv_ok ?_ ?_ <;> omega) | (simp; done) | fail)⟩) (fun _ _ => lo_clD) (by omega)
  unfold l_may_call_c2
  rw [ap_comp]
  unfold rowD at this ⊢
  simp (disch := first | assumption | omega | (simp only [List.length_cons, List.length_append, List.length_map, List.length_nil, List.length_set, List.length_replicate, rep_length, Nat.zero_add, Nat.mul_one]; omega) | (refine mul_ok ?_ ?_ <;> omega) | (refine cdiv_ok ?_ ?_ <;> omega) | (simp; done) | fail)
  exact this
theorem l_all_bids_ok {n : Int} (st : Store) (h : 0 ≤ n ∧ n ≤ 1000) : f_l_all_bids [.int n] st = .ok (.lst ((bidsC n.toNat).map clD)) st := by
  obtain ⟨ρ', st', ⟨e1, e2⟩, e⟩ := for_pure (tg := nmT 2) (ks := [2]) (ρ := [some (.int n), some (.lst []), none, none]) (st := st) (body := l_all_bids_b1) (l := rangeD 1 n.toNat)
    (fun i ρ s => ρ = [some (.int n), some (.lst ((bidsC i).map clD)), none, none] ∧ s = st) ⟨rfl, rfl⟩ (fun i x ρ s hx ⟨e1, e2⟩ => by
      obtain ⟨hi, rfl⟩ := range_at hx
      subst e1 e2
      refine ⟨_, _, ⟨rfl, rfl⟩, fun k => ?_⟩
      have hc : l_all_bids_c1 [some (.int n), some (.lst ((bidsC i).map clD)), some (.int (1 + (i : Int))), none] s = .ok (.lst ((levC (1 + (i : Int))).map clD)) s := by
        unfold l_all_bids_c1
        rw [ap_comp]
        simp (disch := first | assumption | omega | (simp only [List.length_cons, List.length_append, List.length_map, List.length_nil, List.length_set, List.length_replicate, rep_length, Nat.zero_add, Nat.mul_one]; omega) | (refine mul_ok ?_ ?_ <;> omega) | (refine cdiv_ok ?_ ?_ <;> omega) | (simp; done) | fail)
        have := lev_comp (l := 1 + (i : Int)) (ρw := [some (.int n), some (.lst ((bidsC i).map clD)), some (.int (1 + (i : Int))), none]) s rfl (by simp)
        simpa using this
      have l1 := bids_length i
      have l2 : (levC (1 + (i : Int))).length = 5 := by simp [levC]
      simp (disch := first | assumption | omega | (simp only [List.length_cons, List.length_append, List.length_map, List.length_nil, List.length_set, List.length_replicate, rep_length, Nat.zero_add, Nat.mul_one]; omega) | (refine mul_ok ?_ ?_ <;> omega) | (refine cdiv_ok ?_ ?_ <;> omega) | (simp; done) | fail) [l_all_bids_b1, hc, bids_succ, List.map_append, l1, l2])
  subst e1 e2
  rw [range_length] at e
  have hlo : loL st'.length ((bidsC n.toNat).map clD) = true := lo_row
  simp (disch := first | assumption | omega | (simp only [List.length_cons, List.length_append, List.length_map, List.length_nil, List.length_set, List.length_replicate, rep_length, Nat.zero_add, Nat.mul_one]; omega) | (refine mul_ok ?_ ?_ <;> omega) | (refine cdiv_ok ?_ ?_ <;> omega) | (simp; done) | fail) [f_l_all_bids, b_l_all_bids, l_all_bids_l1, ap_for, e]
  exact leave_ret hlo
/-- as the law reckons: the passes behind the last other call -/
def quietC (cs : List Cl) : Int := match lastIx Cl.np cs with
  | none => cs.length
  | some k => (cs.length : Int) - 1 - k
def lastBid (cs : List Cl) : Cl := ((cs.filter Cl.isB).getLast?).getD (.bid 0 4)
def twiceL (cs : List Cl) : List Cl := match lastIx Cl.np cs with
  | none => []
  | some k => if quietC cs ≠ 1 then (match cs[k]? with
    | some .rdb => []
    | some .dbl => [.rdb]
    | _ => [.dbl]) else []
def overL (cs : List Cl) : Bool := decide (quietC cs = 4) || ((lastIx Cl.np cs).isSome && decide (quietC cs = 3))
def mayL (n : Nat) (cs : List Cl) : List Cl := if overL cs then [] else .pas :: (twiceL cs ++ (bidsC n).filter fun c => gtC c (lastBid cs))
theorem lmay_c3_ok {n : Int} {cs : List Cl} {a b c d : Option D} (st : Store) (h : 0 ≤ n ∧ n ≤ 1000) : l_may_call_c3 [some (.int n), a, b, some (.lst ((cs.filter Cl.isB).map clD)), c, d, none, none, none] st = .ok (.lst (((bidsC n.toNat).filter fun c => gtC c (lastBid cs)).map clD)) st := by
  have := comp_if (tg := nmT 8) (tt := tru (op2 gtD (varE 8) (op2 ixD (orE (varE 3) (lstE (consL (tupE (consL (conE (.int 0)) (consL (conE (.int 4)) (nilL)))) (nilL)))) (op1 negD (conE (.int 1)))))) (elt := varE 8) (ρw := [some (.int n), a, b, some (.lst ((cs.filter Cl.isB).map clD)), c, d, none, none, none]) (s0 := st) (enc := clD) (l := bidsC n.toNat) (l' := (bidsC n.toNat).map clD) (l0 := []) (fun c => gtC c (lastBid cs)) clD
    (fun x hx s1 => by
      obtain ⟨a, b, rfl, _⟩ := mem_bids hx
      refine ⟨_, rfl, ?_, fun _ => by simp (disch := first | assumption | omega | (simp only [List.length_cons, List.length_append, List.length_map, List.length_nil, List.length_set, List.length_replicate, rep_length, Nat.zero_add, Nat.mul_one]; omega) | (refine mul_ok ?_ ?_ <;> omega) | (refine cdiv_ok ?_ ?_ <;> omega) | (simp; done) | fail)⟩
      cases hl : (cs.filter Cl.isB).getLast? with
      | none =>
        have he : cs.filter Cl.isB = [] := List.getLast?_eq_none_iff.mp hl
        have h1 : atI [clD (.bid 0 4)] (-1) = some (clD (.bid 0 4)) := rfl
        have h2 : D.tup [.int 0, .int 4] = clD (.bid 0 4) := rfl
        simp (disch := first | assumption | omega | (simp only [List.length_cons, List.length_append, List.length_map, List.length_nil, List.length_set, List.length_replicate, rep_length, Nat.zero_add, Nat.mul_one]; omega) | (refine mul_ok ?_ ?_ <;> omega) | (refine cdiv_ok ?_ ?_ <;> omega) | (simp; done) | fail) [he, h2, h1, gt_bid, lastBid, gtC]
      | some y =>
        have hm := List.mem_of_getLast? hl
        obtain ⟨a2, b2, rfl⟩ := isB_of (List.mem_filter.mp hm).2
        have hne : ¬ (cs.filter Cl.isB = []) := fun z => by rw [z] at hl; cases hl
        have h1 : atI ((cs.filter Cl.isB).map clD) (-1) = some (clD (.bid a2 b2)) := atI_last (by rw [List.getLast?_map, hl]; rfl)
        have h3 : ((cs.filter Cl.isB).map clD).isEmpty = false := by simpa using hne
        simp (disch := first | assumption | omega | (simp only [List.length_cons, List.length_append, List.length_map, List.length_nil, List.length_set, List.length_replicate, rep_length, Nat.zero_add, Nat.mul_one]; omega) | (refine mul_ok ?_ ?_ <;> omega) | (refine cdiv_ok ?_ ?_ <;> omega) | (simp; done) | fail) [h3, h1, gt_bid, lastBid, hl, gtC]) (fun x _ => lo_clD) (by rw [bids_length]; omega)
  unfold l_may_call_c3
  rw [ap_comp]
  simp (disch := first | assumption | omega | (simp only [List.length_cons, List.length_append, List.length_map, List.length_nil, List.length_set, List.length_replicate, rep_length, Nat.zero_add, Nat.mul_one]; omega) | (refine mul_ok ?_ ?_ <;> omega) | (refine cdiv_ok ?_ ?_ <;> omega) | (simp; done) | fail) [l_all_bids_ok st h]
  exact this
theorem np_of {cs : List Cl} {k : Nat} (h : lastIx Cl.np cs = some k) : ∃ c, cs[k]? = some c ∧ c ≠ .pas ∧ k < cs.length := by
  obtain ⟨c, hc, hn⟩ := last_at h
  refine ⟨c, hc, fun z => ?_, (List.getElem?_eq_some_iff.mp hc).1⟩
  subst z
  cases hn
theorem lmay_ok {n : Int} (cs : List Cl) (st : Store) (h : 0 ≤ n ∧ n ≤ 1000) (hlen : cs.length ≤ 10000) : f_l_may_call [.int n, rowD cs] st = .ok (rowD (mayL n.toNat cs)) st := by
  have hfl : ((bidsC n.toNat).filter fun c => gtC c (lastBid cs)).length ≤ 5000 := by
    have := List.length_filter_le (fun c => gtC c (lastBid cs)) (bidsC n.toNat)
    rw [bids_length] at this
    omega
  have h1 : ∀ st, l_may_call_c1 [some (.int n), some (rowD cs), none, none, none, none, none, none, none] st = .ok (.lst ((ixs Cl.np cs).map fun k => .int (k : Nat))) st := fun st => lmay_c1_ok st hlen
  have h2 : ∀ s st, l_may_call_c2 [some (.int n), some (rowD cs), s, none, none, none, none, none, none] st = .ok (.lst ((cs.filter Cl.isB).map clD)) st := fun s st => lmay_c2_ok st hlen
  have h3 : ∀ a b c d st, l_may_call_c3 [some (.int n), a, b, some (.lst ((cs.filter Cl.isB).map clD)), c, d, none, none, none] st = .ok (.lst (((bidsC n.toNat).filter fun c => gtC c (lastBid cs)).map clD)) st := fun a b c d st => lmay_c3_ok st h
  have mk : ∀ tw : List Cl, (D.tup (D.str "pass" :: (tw.map clD ++ ((bidsC n.toNat).filter fun c => gtC c (lastBid cs)).map clD))) = rowD (.pas :: (tw ++ (bidsC n.toNat).filter fun c => gtC c (lastBid cs))) := fun tw => by
    unfold rowD
    rw [List.map_cons, List.map_append]
    rfl
  have e0 := mk []
  have e1 := mk [.dbl]
  have e2 := mk [.rdb]
  have enil : D.tup [] = rowD [] := rfl
  simp only [List.map_cons, List.map_nil, List.nil_append, List.cons_append, clD] at e0 e1 e2
  cases hk : lastIx Cl.np cs with
  | none =>
    have hi : ixs Cl.np cs = [] := List.getLast?_eq_none_iff.mp hk
    have hq : quietC cs = cs.length := by unfold quietC; rw [hk]
    have ha : atI [D.int (-1)] (-1) = some (.int (-1)) := rfl
    have hz : (cs.length : Int) - 1 - -1 = cs.length := by omega
    by_cases h4 : (cs.length : Int) = 4
    · simp (disch := first | assumption | omega | (simp only [List.length_cons, List.length_append, List.length_map, List.length_nil, List.length_set, List.length_replicate, rep_length, Nat.zero_add, Nat.mul_one]; omega) | (refine mul_ok ?_ ?_ <;> omega) | (refine cdiv_ok ?_ ?_ <;> omega) | (simp; done) | fail) [f_l_may_call, b_l_may_call, h1, h2, hi, ha, h4, mayL, overL, hq, enil]
    · simp (disch := first | assumption | omega | (simp only [List.length_cons, List.length_append, List.length_map, List.length_nil, List.length_set, List.length_replicate, rep_length, Nat.zero_add, Nat.mul_one]; omega) | (refine mul_ok ?_ ?_ <;> omega) | (refine cdiv_ok ?_ ?_ <;> omega) | (simp; done) | fail) [f_l_may_call, b_l_may_call, h1, h2, h3, hi, ha, hz, h4, mayL, overL, hq, hk, twiceL, e0]
  | some k =>
    obtain ⟨c, hc, hnp, -⟩ := np_of hk
    have hq : quietC cs = (cs.length : Int) - 1 - k := by unfold quietC; rw [hk]
    have hne : ¬ (ixs Cl.np cs = []) := fun z => by unfold lastIx at hk; rw [z] at hk; cases hk
    have hne2 : ((ixs Cl.np cs).map fun k => D.int (k : Nat)).isEmpty = false := by simpa using hne
    have ha : atI ((ixs Cl.np cs).map fun k => D.int (k : Nat)) (-1) = some (.int (k : Nat)) := atI_last (by rw [List.getLast?_map]; unfold lastIx at hk; rw [hk]; rfl)
    have hix : ∀ q, ixD (rowD cs) (.int (k : Int)) q = some (clD c) := fun q => ix_row hc
    by_cases hov : (cs.length : Int) - 1 - k = 4 ∨ (cs.length : Int) - 1 - k = 3
    · rcases hov with hov | hov <;> simp (disch := first | assumption | omega | (simp only [List.length_cons, List.length_append, List.length_map, List.length_nil, List.length_set, List.length_replicate, rep_length, Nat.zero_add, Nat.mul_one]; omega) | (refine mul_ok ?_ ?_ <;> omega) | (refine cdiv_ok ?_ ?_ <;> omega) | (simp; done) | fail) [f_l_may_call, b_l_may_call, h1, h2, hne2, ha, hov, mayL, overL, hq, hk, enil]
    · rw [not_or] at hov
      by_cases hq1 : (cs.length : Int) - 1 - k = 1
      · simp (disch := first | assumption | omega | (simp only [List.length_cons, List.length_append, List.length_map, List.length_nil, List.length_set, List.length_replicate, rep_length, Nat.zero_add, Nat.mul_one]; omega) | (refine mul_ok ?_ ?_ <;> omega) | (refine cdiv_ok ?_ ?_ <;> omega) | (simp; done) | fail) [f_l_may_call, b_l_may_call, h1, h2, h3, hne2, ha, hov.1, hov.2, hq1, mayL, overL, hq, hk, twiceL, e0]
      · cases c with
        | pas => exact absurd rfl hnp
        | bid a b =>
          have hneq : ∀ q x, neD (clD (.bid a b)) (.str x) q = some (.bl true) := fun q x => rfl
          have heq : ∀ q x, eqD (clD (.bid a b)) (.str x) q = some (.bl false) := fun q x => rfl
          simp (disch := first | assumption | omega | (simp only [List.length_cons, List.length_append, List.length_map, List.length_nil, List.length_set, List.length_replicate, rep_length, Nat.zero_add, Nat.mul_one]; omega) | (refine mul_ok ?_ ?_ <;> omega) | (refine cdiv_ok ?_ ?_ <;> omega) | (simp; done) | fail) [f_l_may_call, b_l_may_call, h1, h2, h3, hne2, ha, hov.1, hov.2, hq1, mayL, overL, hq, hk, hc, hix, twiceL, hneq, heq, e1]
        | dbl => simp (disch := first | assumption | omega | (simp only [List.length_cons, List.length_append, List.length_map, List.length_nil, List.length_set, List.length_replicate, rep_length, Nat.zero_add, Nat.mul_one]; omega) | (refine mul_ok ?_ ?_ <;> omega) | (refine cdiv_ok ?_ ?_ <;> omega) | (simp; done) | fail) [f_l_may_call, b_l_may_call, h1, h2, h3, hne2, ha, hov.1, hov.2, hq1, mayL, overL, hq, hk, hc, hix, twiceL, clD, str_dr, e2]
        | rdb => simp (disch := first | assumption | omega | (simp only [List.length_cons, List.length_append, List.length_map, List.length_nil, List.length_set, List.length_replicate, rep_length, Nat.zero_add, Nat.mul_one]; omega) | (refine mul_ok ?_ ?_ <;> omega) | (refine cdiv_ok ?_ ?_ <;> omega) | (simp; done) | fail) [f_l_may_call, b_l_may_call, h1, h2, h3, hne2, ha, hov.1, hov.2, hq1, mayL, overL, hq, hk, hc, hix, twiceL, clD, e0]
end DL

namespace DL
open PySem PySem.Spec PyProof.Rows L2

/-! ### rows of calls, in plain Lean -/
theorem snoc_ind {A : Type} {P : List A → Prop} (h0 : P []) (hs : ∀ l c, P l → P (l ++ [c])) (l : List A) : P l := by
  have : ∀ l : List A, P l.reverse := fun l => by
    induction l with
    | nil => exact h0
    | cons c l ih => rw [List.reverse_cons]; exact hs _ _ ih
  have := this l.reverse
  rwa [List.reverse_reverse] at this
theorem last_nil {p : Cl → Bool} : lastIx p [] = none := rfl
theorem last_lt {p : Cl → Bool} {cs : List Cl} {k : Nat} (h : lastIx p cs = some k) : k < cs.length := by
  obtain ⟨c, hc, _⟩ := last_at h
  exact (List.getElem?_eq_some_iff.mp hc).1
theorem last_none {p : Cl → Bool} : ∀ {cs : List Cl}, lastIx p cs = none → ∀ c ∈ cs, p c = false := fun {cs} => by
  refine snoc_ind (P := fun cs => lastIx p cs = none → ∀ c ∈ cs, p c = false) (fun _ c m => by simp at m) (fun l c ih h d m => ?_) cs
  rw [last_snoc] at h
  split at h
  · cases h
  · rename_i hp
    rcases List.mem_append.mp m with m | m
    · exact ih h d m
    · cases List.mem_singleton.mp m
      simpa using hp
theorem last_max {p : Cl → Bool} : ∀ {cs : List Cl} {k : Nat}, lastIx p cs = some k → ∀ j c, k < j → cs[j]? = some c → p c = false := fun {cs} => by
  refine snoc_ind (P := fun cs => ∀ {k : Nat}, lastIx p cs = some k → ∀ j c, k < j → cs[j]? = some c → p c = false) (fun h => by rw [last_nil] at h; cases h) (fun l d ih k h j c hkj hc => ?_) cs
  rw [last_snoc] at h
  split at h
  · cases h
    have := (List.getElem?_eq_some_iff.mp hc).1
    simp at this
    omega
  · rename_i hp
    by_cases hj : j < l.length
    · rw [List.getElem?_append_left hj] at hc
      exact ih h j c hkj hc
    · rw [List.getElem?_append_right (by omega)] at hc
      have : j - l.length = 0 := by
        have := (List.getElem?_eq_some_iff.mp hc).1
        simp at this
        omega
      rw [this] at hc
      cases hc
      simpa using hp
theorem last_filter {p : Cl → Bool} : ∀ cs : List Cl, (cs.filter p).getLast? = (lastIx p cs).bind fun k => cs[k]? := fun cs => by
  refine snoc_ind (P := fun cs => (cs.filter p).getLast? = (lastIx p cs).bind fun k => cs[k]?) rfl (fun l c ih => ?_) cs
  rw [last_snoc, List.filter_append]
  by_cases hp : p c
  · simp [hp]
  · simp only [hp, List.filter_cons, List.filter_nil, Bool.false_eq_true, if_false, List.append_nil, ih]
    cases h : lastIx p l with
    | none => rfl
    | some k =>
      show l[k]? = (l ++ [c])[k]?
      rw [List.getElem?_append_left (last_lt h)]
theorem np_pas {c : Cl} : c.np = false ↔ c = .pas := by unfold Cl.np; simp
/-- the passes are few -/
structure Okq (cs : List Cl) : Prop where
  some_ : ∀ k, lastIx Cl.np cs = some k → cs.length ≤ k + 4
  none_ : lastIx Cl.np cs = none → cs.length ≤ 4
theorem tail3_pas {cs : List Cl} (h3 : 3 ≤ cs.length) (h : ∀ j c, cs.length - 3 ≤ j → cs[j]? = some c → c = .pas) : tail3 cs = [.pas, .pas, .pas] := by
  unfold tail3
  apply List.ext_getElem?
  intro i
  rw [List.getElem?_drop]
  by_cases hi : i < 3
  · have hl : cs.length - 3 + i < cs.length := by omega
    have := h (cs.length - 3 + i) _ (by omega) (List.getElem?_eq_getElem hl)
    rw [List.getElem?_eq_getElem hl, this]
    match i, hi with
    | 0, _ => rfl
    | 1, _ => rfl
    | 2, _ => rfl
  · rw [List.getElem?_eq_none (by omega), List.getElem?_eq_none (by simp; omega)]
theorem over_eq {cs : List Cl} (q : Okq cs) : over cs = overL cs := by
  unfold over overL quietC
  cases hk : lastIx Cl.np cs with
  | none =>
    have h1 := q.none_ hk
    by_cases h4 : cs.length = 4
    · have ht := tail3_pas (cs := cs) (by omega) fun j c _ hc => np_pas.mp (last_none hk c (List.mem_of_getElem? hc))
      simp [ht, h4]
    · have : ¬ 4 ≤ cs.length := by omega
      have h5 : ¬ (cs.length : Int) = 4 := by omega
      simp [this, h5]
  | some k =>
    have h1 := q.some_ k hk
    have h2 := last_lt hk
    obtain ⟨c, hc, hn, _⟩ := np_of hk
    have h6 : ¬ (cs.length : Int) - 1 - k = 4 := by omega
    by_cases h3 : cs.length = k + 4
    · have ht := tail3_pas (cs := cs) (by omega) fun j c hj hc => np_pas.mp (last_max hk j c (by omega) hc)
      have h5 : (cs.length : Int) - 1 - k = 3 := by omega
      simp [ht, h5, show 4 ≤ cs.length by omega]
    · have h5 : ¬ (cs.length : Int) - 1 - k = 3 := by omega
      have ht : ¬ tail3 cs = [.pas, .pas, .pas] := fun z => by
        by_cases hl : 3 ≤ cs.length
        · have e : (tail3 cs)[k - (cs.length - 3)]? = some c := by
            unfold tail3
            rw [List.getElem?_drop, show cs.length - 3 + (k - (cs.length - 3)) = k by omega]
            exact hc
          rw [z] at e
          have hm := List.mem_of_getElem? e
          simp at hm
          exact hn hm
        · have := congrArg List.length z
          unfold tail3 at this
          simp at this
          omega
      simp [ht, h5, h6]
theorem beats_eq {n : Nat} {cs : List Cl} {c : Cl} (hc : c ∈ bidsC n) : beatsC cs c = gtC c (lastBid cs) := by
  unfold beatsC lastBid
  rw [last_filter]
  cases h : (lastIx Cl.isB cs).bind fun k => cs[k]? with
  | some b => rfl
  | none =>
    obtain ⟨a, b, rfl, h1, _⟩ := mem_bids hc
    show true = gtB a b 0 4
    unfold gtB
    rw [if_neg (by omega)]
    simp; omega
theorem twice_eq {cs : List Cl} (q : Okq cs) (ho : overL cs = false) : twiceC cs = twiceL cs := by
  unfold twiceC twiceL
  cases hk : lastIx Cl.np cs with
  | none => rfl
  | some k =>
    have h1 := q.some_ k hk
    have h2 := last_lt hk
    obtain ⟨c, hc, hn, _⟩ := np_of hk
    have hq : quietC cs = (cs.length : Int) - 1 - k := by unfold quietC; rw [hk]
    unfold overL at ho
    rw [hk, hq] at ho
    have h3 : ¬ (cs.length : Int) - 1 - k = 3 := fun z => by simp [z] at ho
    rw [hq]
    dsimp only
    rw [hc]
    by_cases h5 : (cs.length : Int) - 1 - k = 1
    · have : ¬ ((cs.length : Int) - k) % 2 = 1 := by omega
      simp [h5, this]
    · have : ((cs.length : Int) - k) % 2 = 1 := by omega
      simp only [this, h5, if_true, ne_eq, not_false_eq_true]
      cases c <;> first | rfl | exact absurd rfl hn
theorem may_eq {n : Nat} {cs : List Cl} (q : Okq cs) : mayC n cs = mayL n cs := by
  unfold mayC mayL
  rw [over_eq q]
  cases ho : overL cs with
  | true => rfl
  | false =>
    simp only [Bool.false_eq_true, if_false]
    rw [twice_eq q ho, List.filter_congr fun c hc => beats_eq hc]
/-- rows that may be called, one behind another -/
inductive Leg (n : Nat) : List Cl → Prop
  | nil : Leg n []
  | snoc {cs c} : Leg n cs → c ∈ mayL n cs → Leg n (cs ++ [c])
theorem Leg.okq {n : Nat} {cs : List Cl} (h : Leg n cs) : Okq cs := by
  induction h with
  | nil => exact ⟨fun k h => by (rw [last_nil] at h; cases h), fun _ => by simp⟩
  | @snoc cs c h hm ih =>
    have ho : overL cs = false := by
      cases ho : overL cs with
      | false => rfl
      | true => unfold mayL at hm; rw [ho] at hm; simp at hm
    unfold overL quietC at ho
    by_cases hc : c = .pas
    · subst hc
      have e : lastIx Cl.np (cs ++ [.pas]) = lastIx Cl.np cs := by rw [last_snoc]; rfl
      refine ⟨fun k hk => ?_, fun hk => ?_⟩
      · rw [e] at hk
        have := ih.some_ k hk
        rw [hk] at ho
        have h3 : ¬ (cs.length : Int) - 1 - k = 3 := fun z => by simp [z] at ho
        have := last_lt hk
        simp
        omega
      · rw [e] at hk
        have := ih.none_ hk
        rw [hk] at ho
        have h3 : ¬ (cs.length : Int) = 4 := fun z => by simp [z] at ho
        simp
        omega
    · have hn : c.np = true := by unfold Cl.np; simp [hc]
      have e : lastIx Cl.np (cs ++ [c]) = some cs.length := by rw [last_snoc, hn]; rfl
      refine ⟨fun k hk => ?_, fun hk => ?_⟩
      · rw [e] at hk
        cases hk
        simp
      · rw [e] at hk; cases hk
theorem Leg.take {n : Nat} {cs : List Cl} (h : Leg n cs) : ∀ k, Leg n (cs.take k) := by
  induction h with
  | nil => intro k; rw [List.take_nil]; exact .nil
  | @snoc cs c h hm ih =>
    intro k
    by_cases hk : k ≤ cs.length
    · rw [List.take_append_of_le_length hk]
      exact ih k
    · rw [List.take_of_length_le (by simp; omega)]
      exact .snoc h hm
/-! ### drawn rows -/
theorem pickT_ok {ns : List Int} {n : Nat} {c : Cell} {r : Store} {xs : List D} (hns : ns.length ≤ 63) (h : Tn n c) (hn : n ≤ 1000000) (hx : 0 < xs.length) (hlo : loL 0 xs = true) :
    ∃ d c', d ∈ xs ∧ f_l_pick [.scr ns, .ref 0, .tup xs] (c :: r) = .ok d (c' :: r) ∧ Tn (n + 1) c' := by
  obtain ⟨i, c', e, h0, h1, h2⟩ := draw_ok (r := r) (m := (xs.length : Int)) hns h hn (by omega)
  have hl : i.toNat < xs.length := by omega
  have hat : atI xs i = some xs[i.toNat] := atI_pos h0 (List.getElem?_eq_getElem hl)
  refine ⟨xs[i.toNat], c', List.getElem_mem hl, ?_, h2⟩
  simp (disch := first | assumption | omega | (simp only [List.length_cons, List.length_append, List.length_map, List.length_nil, List.length_set, List.length_replicate, rep_length, Nat.zero_add, Nat.mul_one]; omega) | (refine mul_ok ?_ ?_ <;> omega) | (refine cdiv_ok ?_ ?_ <;> omega) | (simp; done) | fail) [f_l_pick, b_l_pick, e, hat]
  exact leave_head1 (lo_mem hlo (List.getElem_mem hl)) h2.lo
theorem mayL_length (n : Nat) (cs : List Cl) : (mayL n cs).length ≤ 2 + 5 * n := by
  unfold mayL
  split
  · simp
  · have h1 := List.length_filter_le (fun c => gtC c (lastBid cs)) (bidsC n)
    rw [bids_length] at h1
    have h2 : (twiceL cs).length ≤ 1 := by
      unfold twiceL
      split
      · simp
      · split
        · split <;> simp
        · simp
    simp
    omega
theorem drawn_calls_ok {ns : List Int} {n0 : Nat} {c : Cell} {r : Store} {n m : Int} (hns : ns.length ≤ 63) (h : Tn n0 c) (hn0 : n0 ≤ 500000) (hn : 0 ≤ n ∧ n ≤ 1000) (hm : 0 ≤ m ∧ m ≤ 5000) :
    ∃ cs c', Leg n.toNat cs ∧ cs.length ≤ m.toNat ∧ f_l_drawn_calls [.scr ns, .ref 0, .int n, .int m] (c :: r) = .ok (rowD cs) (c' :: r) ∧ Tn (n0 + 2 * m.toNat) c' := by
  obtain ⟨ρ', st', ⟨cs, c', e1, e2, hl, hlen, ht⟩, e⟩ := for_pure (tg := nmT 5) (ks := [5, 6, 7, 8]) (ρ := [some (.scr ns), some (.ref 0), some (.int n), some (.int m), some (rowD []), none, none, none, none]) (st := c :: r) (body := l_drawn_calls_b1) (l := rangeD 0 m.toNat)
    (fun i ρ s => ∃ cs c', ρ = [some (.scr ns), some (.ref 0), some (.int n), some (.int m), some (rowD cs), none, none, none, none] ∧ s = c' :: r ∧ Leg n.toNat cs ∧ cs.length ≤ i ∧ Tn (n0 + 2 * i) c') ⟨[], c, rfl, rfl, .nil, by simp, h⟩ (fun i x ρ s hx ⟨cs, c', e1, e2, hl, hlen, ht⟩ => by
      obtain ⟨hi, rfl⟩ := range_at hx
      subst e1 e2
      have hmay := lmay_ok cs (c' :: r) hn (by omega)
      have hml := mayL_length n.toNat cs
      cases hs : mayL n.toNat cs with
      | nil =>
        rw [hs] at hmay
        refine ⟨_, _, ⟨cs, c', rfl, rfl, hl, by omega, ht.mono (by omega)⟩, fun k => ?_⟩
        simp (disch := first | assumption | omega | (simp only [List.length_cons, List.length_append, List.length_map, List.length_nil, List.length_set, List.length_replicate, rep_length, Nat.zero_add, Nat.mul_one]; omega) | (refine mul_ok ?_ ?_ <;> omega) | (refine cdiv_ok ?_ ?_ <;> omega) | (simp; done) | fail) [l_drawn_calls_b1, hmay]
        simp [rowD]
      | cons y ys =>
        rw [hs] at hmay hml
        obtain ⟨w, c1, d1, w0, w1, t1⟩ := draw_ok (r := r) (m := 5) hns ht (by omega) (by decide)
        by_cases hw : w < 2
        · have hy : y = .pas := by
            unfold mayL at hs
            split at hs
            · cases hs
            · exact (List.cons.inj hs).1.symm
          refine ⟨_, _, ⟨cs ++ [.pas], c1, rfl, rfl, .snoc hl (by rw [hs, hy]; simp), by simp; omega, t1.mono (by omega)⟩, fun k => ?_⟩
          have hadd : ∀ q, addD (rowD cs) (.tup [.str "pass"]) q = some (rowD (cs ++ [.pas])) := fun q => by
            unfold rowD
            rw [add_tup (by simp; omega), List.map_append]
            rfl
          have htr : ∀ q, truD (rowD (y :: ys)) q = some true := fun q => rfl
          simp (disch := first | assumption | omega | (simp only [List.length_cons, List.length_append, List.length_map, List.length_nil, List.length_set, List.length_replicate, rep_length, Nat.zero_add, Nat.mul_one]; omega) | (refine mul_ok ?_ ?_ <;> omega) | (refine cdiv_ok ?_ ?_ <;> omega) | (simp; done) | fail) [l_drawn_calls_b1, hmay, htr, d1, hw, hadd]
        · have hsl : ∀ q, slD (rowD (y :: ys)) none (some (1 + 2 * w)) q = some (.tup (((y :: ys).take (1 + 2 * w).toNat).map clD)) := fun q => by
            unfold rowD
            rw [sl_tup, cut_to (by omega), List.map_take]
          have hpos : 0 < (((y :: ys).take (1 + 2 * w).toNat).map clD).length := by simp; omega
          obtain ⟨d, c2, hd, d2, t2⟩ := pickT_ok (r := r) hns t1 (by omega) hpos lo_row
          obtain ⟨z, hz, rfl⟩ := List.mem_map.mp hd
          have hz2 : z ∈ mayL n.toNat cs := by rw [hs]; exact List.mem_of_mem_take hz
          refine ⟨_, _, ⟨cs ++ [z], c2, rfl, rfl, .snoc hl hz2, by simp; omega, t2.mono (by omega)⟩, fun k => ?_⟩
          have hadd : ∀ q, addD (rowD cs) (.tup [clD z]) q = some (rowD (cs ++ [z])) := fun q => by
            unfold rowD
            rw [add_tup (by simp; omega), List.map_append]
            rfl
          have htr : ∀ q, truD (rowD (y :: ys)) q = some true := fun q => rfl
          generalize ((y :: ys).take (1 + 2 * w).toNat).map clD = xs at hsl d2
          simp (disch := first | assumption | omega | (simp only [List.length_cons, List.length_append, List.length_map, List.length_nil, List.length_set, List.length_replicate, rep_length, Nat.zero_add, Nat.mul_one]; omega) | (refine mul_ok ?_ ?_ <;> omega) | (refine cdiv_ok ?_ ?_ <;> omega) | (simp; done) | fail) [l_drawn_calls_b1, hmay, htr, d1, hw, hadd, hsl, d2])
  subst e1 e2
  rw [range_length] at hlen ht
  refine ⟨cs, c', hl, hlen, ?_, ht⟩
  have en : D.tup [] = rowD [] := rfl
  simp (disch := first | assumption | omega | (simp only [List.length_cons, List.length_append, List.length_map, List.length_nil, List.length_set, List.length_replicate, rep_length, Nat.zero_add, Nat.mul_one]; omega) | (refine mul_ok ?_ ?_ <;> omega) | (refine cdiv_ok ?_ ?_ <;> omega) | (simp; done) | fail) [f_l_drawn_calls, b_l_drawn_calls, l_drawn_calls_l1, ap_for, en, e]
  exact leave_head1 lo_row ht.lo
end DL

namespace DL
open PySem PySem.Spec PyProof.Rows L2

/-! ### contracts -/
theorem for_first {A : Type} (enc : A → D) (p : A → Bool) (val : A → D) {tg : Tgt} {body : DenS} {ks : List Nat} {ρ : Env} {st : Store} {l0 : List D} : ∀ (l : List A), (∀ a ∈ l, p a = false → ∀ k, (tgtO (tg (enc a) ρ) fun ρ' => turnO ks (body ρ' st) k) = k ρ st) →
    (∀ a ∈ l, p a = true → ∀ k, (tgtO (tg (enc a) ρ) fun ρ' => turnO ks (body ρ' st) k) = .ret (val a) st) → forGo ⟨l0, none⟩ tg body ks (l.map enc) ρ st = match l.find? p with
      | some a => .ret (val a) st
      | none => .next ρ st
  | [], _, _ => for_nil
  | a :: l, hn, hy => by
    rw [List.map_cons, for_cons, List.find?_cons]
    cases hp : p a with
    | true => rw [hy a (by simp) hp]
    | false =>
      rw [hn a (by simp) hp]
      exact for_first enc p val l (fun b hb => hn b (by simp [hb])) (fun b hb => hy b (by simp [hb]))
theorem inL_row {c : Cl} : ∀ {ds : List Cl}, inL (clD c) (ds.map clD) = decide (c ∈ ds)
  | [] => by simp [inL]
  | d :: ds => by
    have ih := inL_row (c := c) (ds := ds)
    unfold inL at ih ⊢
    rw [List.map_cons, List.any_cons, ih, eqv_clD]
    by_cases h1 : d = c
    · simp [h1]
    · have : ¬ c = d := fun z => h1 z.symm
      by_cases h2 : c ∈ ds <;> simp [h1, h2, this]
theorem in_strT {x : Str} {xs : List D} {st : Store} : inD (.str x) (.tup xs) st = if (fits (.str x) 60 && fitsL xs 60) = true then some (.bl (inL (.str x) xs)) else none := rfl
theorem in_row {c : Cl} {x : Str} {ds : List Cl} {st : Store} (h : clD c = .str x) : inD (.str x) (rowD ds) st = some (.bl (decide (c ∈ ds))) := by
  have f2 : fitsL (ds.map clD) 60 = true := fit_row
  unfold rowD
  rw [in_strT, f2, ← h, fit_clD, inL_row]
  rfl
theorem count_row {c : Cl} : ∀ {ds : List Cl}, ((ds.map clD).countP fun y => D.eqv y (clD c)) = ds.count c
  | [] => rfl
  | d :: ds => by
    rw [List.map_cons, List.countP_cons, count_row, eqv_clD, List.count_cons]
    simp
theorem countO_row {c : Cl} {ds : List Cl} {st : Store} : mcR countO (rowD ds) [clD c] st = some (.int (ds.count c : Nat)) := by
  have f1 : fits (clD c) 60 = true := fit_clD
  have f2 : fitsL (ds.map clD) 60 = true := fit_row
  show (if (fits (clD c) 60 && fitsL (ds.map clD) 60) = true then some (D.int (((ds.map clD).countP fun y => D.eqv y (clD c) : Nat))) else none) = _
  rw [f1, f2, count_row]
  rfl
@[simp] theorem ap_mc (o : MC) (f : Den) (g : DenL) (ρ : Env) (st : Store) : mcE o f g ρ st = (f ρ st).bind fun x s => guardR ((view s x).isSome = true) ((g ρ s).bind fun ds s2 => Res.of (mcR o x ds s2) s2) := Eq.trans rfl rfl
@[simp] theorem vw_row {cs : List Cl} {st : Store} : view st (rowD cs) = some (cs.map clD) := Eq.trans rfl rfl
theorem sl_row {cs : List Cl} {k : Nat} {st : Store} : slD (rowD cs) (some (k : Int)) none st = some (rowD (cs.drop k)) := by
  unfold rowD
  rw [sl_tup, cut_from (by omega), Int.toNat_natCast, List.map_drop]
def timesP (ds : List Cl) : Int := if .rdb ∈ ds then 4 else if .dbl ∈ ds then 2 else 1
def timesL (ds : List Cl) : Int := 1 + (ds.count .dbl : Nat) + 2 * (ds.count .rdb : Nat)
/-- the same side's bids of that strain -/
def sameB (s : Int) (k : Nat) (q : Cl × Nat) : Bool := match q.1 with
  | .bid _ t => decide (t = s) && decide (((k : Int) - q.2) % 2 = 0)
  | _ => false
def conD (dealer l s t : Int) (j : Nat) : D := .tup [.int l, .int s, .int t, .int ((dealer + j) % 4)]
def conP (dealer : Int) (cs : List Cl) : D := match (lastIx Cl.isB cs).bind fun k => (cs[k]?).map fun c => (k, c) with
  | some (k, .bid l s) => if over cs then (match cs.zipIdx.find? (sameB s k) with
    | some q => conD dealer l s (timesP (cs.drop k)) q.2
    | none => .non) else .non
  | _ => .non
theorem mem_zip {cs : List Cl} {q : Cl × Nat} (h : q ∈ cs.zipIdx) : cs[q.2]? = some q.1 := List.mem_zipIdx_iff_getElem?.mp h
theorem contract_ok {dealer : Int} (cs : List Cl) (st : Store) (hl : cs.length ≤ 10000) : f_contract_of [.int dealer, rowD cs] st = .ok (conP dealer cs) st := by
  have hb := last_bid_ok cs st
  have ho := over_ok cs st
  unfold conP
  cases hk : lastIx Cl.isB cs with
  | none =>
    rw [hk] at hb
    simp (disch := first | assumption | omega | (simp only [List.length_cons, List.length_append, List.length_map, List.length_nil, List.length_set, List.length_replicate, rep_length, Nat.zero_add, Nat.mul_one]; omega) | (refine mul_ok ?_ ?_ <;> omega) | (refine cdiv_ok ?_ ?_ <;> omega) | (simp; done) | fail) [f_contract_of, b_contract_of, hb]
  | some k =>
    rw [hk] at hb
    obtain ⟨c, hc, hB⟩ := last_at hk
    obtain ⟨l, s, rfl⟩ := isB_of hB
    have hix : ∀ q, ixD (rowD cs) (.int (k : Int)) q = some (.tup [.int l, .int s]) := fun q => ix_row hc
    rw [show ((some k).bind fun k => (cs[k]?).map fun c => (k, c)) = some (k, .bid l s) by show (cs[k]?).map _ = _; rw [hc]; rfl]
    dsimp only
    cases hov : over cs with
    | false => simp (disch := first | assumption | omega | (simp only [List.length_cons, List.length_append, List.length_map, List.length_nil, List.length_set, List.length_replicate, rep_length, Nat.zero_add, Nat.mul_one]; omega) | (refine mul_ok ?_ ?_ <;> omega) | (refine cdiv_ok ?_ ?_ <;> omega) | (simp; done) | fail) [f_contract_of, b_contract_of, hb, ho, hov]
    | true =>
      have hd : ∀ q, inD (.str "double") (rowD (cs.drop k)) q = some (.bl (decide (.dbl ∈ cs.drop k))) := fun q => in_row (c := .dbl) rfl
      have hr : ∀ q, inD (.str "redouble") (rowD (cs.drop k)) q = some (.bl (decide (.rdb ∈ cs.drop k))) := fun q => in_row (c := .rdb) rfl
      have hsl : ∀ q, slD (rowD cs) (some (k : Int)) none q = some (rowD (cs.drop k)) := fun q => sl_row
      have loop : contract_of_l1 [some (.int dealer), some (rowD cs), some (.int k), some (.int l), some (.int s), some (.int (timesP (cs.drop k))), none, none] st = match cs.zipIdx.find? (sameB s k) with
          | some q => .ret (conD dealer l s (timesP (cs.drop k)) q.2) st
          | none => .next [some (.int dealer), some (rowD cs), some (.int k), some (.int l), some (.int s), some (.int (timesP (cs.drop k))), none, none] st := by
        unfold contract_of_l1
        rw [ap_for]
        have := for_first (fun q : Cl × Nat => D.ltp [.int q.2, clD q.1]) (sameB s k) (fun q => conD dealer l s (timesP (cs.drop k)) q.2) (tg := tupT (consT (nmT 6) (consT (nmT 7) (nilT)))) (body := contract_of_b1) (ks := [6, 7]) (ρ := [some (.int dealer), some (rowD cs), some (.int k), some (.int l), some (.int s), some (.int (timesP (cs.drop k))), none, none]) (st := st) (l0 := pairsN (cs.map clD)) cs.zipIdx
          (fun q _ hp k2 => by
            obtain ⟨c, j⟩ := q
            cases c with
            | bid a b =>
              have h1 : ∀ q, ixD (clD (.bid a b)) (.int 1) q = some (.int b) := fun q => rfl
              by_cases hs : b = s
              · subst hs
                have h2 : ¬ ((k : Int) - j) % 2 = 0 := fun z => by simp [sameB, z] at hp
                simp (disch := first | assumption | omega | (simp only [List.length_cons, List.length_append, List.length_map, List.length_nil, List.length_set, List.length_replicate, rep_length, Nat.zero_add, Nat.mul_one]; omega) | (refine mul_ok ?_ ?_ <;> omega) | (refine cdiv_ok ?_ ?_ <;> omega) | (simp; done) | fail) [contract_of_b1, is_tupC, Cl.isB, h1, h2]
              · simp (disch := first | assumption | omega | (simp only [List.length_cons, List.length_append, List.length_map, List.length_nil, List.length_set, List.length_replicate, rep_length, Nat.zero_add, Nat.mul_one]; omega) | (refine mul_ok ?_ ?_ <;> omega) | (refine cdiv_ok ?_ ?_ <;> omega) | (simp; done) | fail) [contract_of_b1, is_tupC, Cl.isB, h1, hs]
            | _ => simp (disch := first | assumption | omega | (simp only [List.length_cons, List.length_append, List.length_map, List.length_nil, List.length_set, List.length_replicate, rep_length, Nat.zero_add, Nat.mul_one]; omega) | (refine mul_ok ?_ ?_ <;> omega) | (refine cdiv_ok ?_ ?_ <;> omega) | (simp; done) | fail) [contract_of_b1, is_tupC, Cl.isB])
          (fun q _ hp k2 => by
            obtain ⟨c, j⟩ := q
            cases c with
            | bid a b =>
              have h1 : ∀ q, ixD (clD (.bid a b)) (.int 1) q = some (.int b) := fun q => rfl
              have h3 : b = s ∧ ((k : Int) - j) % 2 = 0 := by simpa [sameB] using hp
              obtain ⟨rfl, h2⟩ := h3
              simp (disch := first | assumption | omega | (simp only [List.length_cons, List.length_append, List.length_map, List.length_nil, List.length_set, List.length_replicate, rep_length, Nat.zero_add, Nat.mul_one]; omega) | (refine mul_ok ?_ ?_ <;> omega) | (refine cdiv_ok ?_ ?_ <;> omega) | (simp; done) | fail) [contract_of_b1, is_tupC, Cl.isB, h1, h2, conD]
            | _ => cases hp)
        rw [← pairsN_row] at this
        unfold rowD at this ⊢
        simp (disch := first | assumption | omega | (simp only [List.length_cons, List.length_append, List.length_map, List.length_nil, List.length_set, List.length_replicate, rep_length, Nat.zero_add, Nat.mul_one]; omega) | (refine mul_ok ?_ ?_ <;> omega) | (refine cdiv_ok ?_ ?_ <;> omega) | (simp; done) | fail)
        refine this.trans ?_
        cases cs.zipIdx.find? (sameB s k) <;> rfl
      have ht : (if decide (Cl.rdb ∈ cs.drop k) = true then (4 : Int) else if decide (Cl.dbl ∈ cs.drop k) = true then 2 else 1) = timesP (cs.drop k) := by unfold timesP; simp
      clear ht
      cases hf : cs.zipIdx.find? (sameB s k) with
      | none =>
        rw [hf] at loop
        dsimp only at loop
        unfold timesP at loop
        simp (disch := first | assumption | omega | (simp only [List.length_cons, List.length_append, List.length_map, List.length_nil, List.length_set, List.length_replicate, rep_length, Nat.zero_add, Nat.mul_one]; omega) | (refine mul_ok ?_ ?_ <;> omega) | (refine cdiv_ok ?_ ?_ <;> omega) | (simp; done) | fail) [f_contract_of, b_contract_of, hb, ho, hov, hix, hsl, hd, hr, loop]
      | some q =>
        rw [hf] at loop
        dsimp only at loop
        unfold timesP at loop ⊢
        have hlo : lo st.length (conD dealer l s (if Cl.rdb ∈ cs.drop k then 4 else if Cl.dbl ∈ cs.drop k then 2 else 1) q.2) = true := rfl
        simp (disch := first | assumption | omega | (simp only [List.length_cons, List.length_append, List.length_map, List.length_nil, List.length_set, List.length_replicate, rep_length, Nat.zero_add, Nat.mul_one]; omega) | (refine mul_ok ?_ ?_ <;> omega) | (refine cdiv_ok ?_ ?_ <;> omega) | (simp; done) | fail) [f_contract_of, b_contract_of, hb, ho, hov, hix, hsl, hd, hr, loop]
end DL

namespace DL
open PySem PySem.Spec PyProof.Rows L2
/-! ### faults of a play -/
def pfC (r : Nat) (d : List (List Card)) (s l : Int) (ps : List Card) (c : Card) : Option Str := match turnP r s l ps with
  | none => some "over"
  | some p => if c ∈ (leftP d ps)[p.toNat]?.getD [] then (if c ∈ mayP r d s l ps then none else some "follow") else some "hand"
def faultV (r : Nat) (d : List (List Card)) (s l : Int) (cs : List Card) : Option (Card × Nat) := cs.zipIdx.find? fun q => (pfC r d s l (cs.take q.2) q.1).isSome
def fV (r : Nat) (d : List (List Card)) (s l : Int) (cs : List Card) (q : Card × Nat) : D := .tup [.int (q.2 : Nat), .str ((pfC r d s l (cs.take q.2) q.1).getD "over")]
def oFV (r : Nat) (d : List (List Card)) (s l : Int) (cs : List Card) : D := match faultV r d s l cs with
  | none => .non
  | some q => fV r d s l cs q
theorem pairsN_cards {cs : List Card} : pairsN (cs.map cD) = cs.zipIdx.map fun q : Card × Nat => D.ltp [.int (q.2 : Nat), cD q.1] := by
  unfold pairsN
  rw [List.zipIdx_map, List.map_map]
  rfl
theorem is_tup_card {c : Card} {st : Store} : isiD "tuple" (cD c) st = some (.bl true) := rfl
theorem pf_c1 {a b c d e f g : Option D} {x : Card} {st : Store} : play_fault_c1 [a, b, c, d, e, some (cD x), f, g, none] st = .ok (.lst [.bl true, .bl true]) st :=
  cMap (enc := D.int) (l := [x.1, x.2]) (fun _ => .bl true) rfl (fun i _ s1 => ⟨_, rfl, by simp (disch := first | assumption | omega | (simp only [List.length_cons, List.length_append, List.length_map, List.length_nil, List.length_set, List.length_replicate, rep_length, Nat.zero_add, Nat.mul_one]; omega) | (refine mul_ok ?_ ?_ <;> omega) | (refine cdiv_ok ?_ ?_ <;> omega) | (simp; done) | fail)⟩) (fun _ _ => rfl) (by simp)
theorem play_fault_ok {r : Nat} {d : List (List Card)} {s l : Int} {cs : List Card} (st : Store) (hD : Deal r d) (hr : r ≤ 200) (hl : cs.length ≤ 1000) : f_play_fault [dealD d, .int s, .int l, handD cs] st = .ok (oFV r d s l cs) st := by
  have loop : play_fault_l1 [some (dealD d), some (.int s), some (.int l), some (handD cs), none, none, none, none, none] st = match faultV r d s l cs with
      | some q => .ret (fV r d s l cs q) st
      | none => .next [some (dealD d), some (.int s), some (.int l), some (handD cs), none, none, none, none, none] st := by
    have body : ∀ (c : Card) (j : Nat), ∀ k2, turnO [4, 5, 6, 7] (play_fault_b1 [some (dealD d), some (.int s), some (.int l), some (handD cs), some (.int (j : Nat)), some (cD c), none, none, none] st) k2 = if (pfC r d s l (cs.take j) c).isSome = true then .ret (fV r d s l cs (c, j)) st else k2 [some (dealD d), some (.int s), some (.int l), some (handD cs), none, none, none, none, none] st := fun c j k2 => by
      have hsl : ∀ q, slD (handD cs) none (some (j : Int)) q = some (handD (cs.take j)) := fun q => sl_handT
      have hpl : (cs.take j).length ≤ 1000 := by rw [List.length_take]; omega
      unfold fV
      dsimp only
      generalize cs.take j = ps at *
      have ht := turn_ok (s := s) (l := l) st hD hr hpl
      have hm := may_play_ok (s := s) (l := l) st hD hr hpl
      have hf := left_ok (cs := ps) st (d := d) (by have := hD.four; omega) (fun h hm => by have := hD.each h hm; omega)
      have ev : pfC r d s l ps c = match turnP r s l ps with
        | none => some "over"
        | some p => if c ∈ (leftP d ps)[p.toNat]?.getD [] then (if c ∈ mayP r d s l ps then none else some "follow") else some "hand" := rfl
      cases h : turnP r s l ps with
      | none =>
        rw [h] at ht ev
        rw [ev]
        simp (disch := first | assumption | omega | (simp only [List.length_cons, List.length_append, List.length_map, List.length_nil, List.length_set, List.length_replicate, rep_length, Nat.zero_add, Nat.mul_one]; omega) | (refine mul_ok ?_ ?_ <;> omega) | (refine cdiv_ok ?_ ?_ <;> omega) | (simp; done) | fail) [play_fault_b1, hsl, ht, oD]
      | some p =>
        rw [h] at ht ev
        have hp := turn_range h
        obtain ⟨hd, e1, e2⟩ := left_get (cs := ps) hD.four hp
        have hi : ∀ q, ixD (dealD (leftP d ps)) (.int p) q = some (handD (hd.filter fun c => !decide (c ∈ ps))) := fun q => ix_deal hp.1 e2
        dsimp only at ev
        rw [e2, Option.getD_some] at ev
        generalize (hd.filter fun c => !decide (c ∈ ps)) = hf2 at *
        by_cases m1 : c ∈ hf2
        · rw [if_pos m1] at ev
          by_cases m2 : c ∈ mayP r d s l ps
          · rw [if_pos m2] at ev
            rw [ev]
            simp (disch := first | assumption | omega | (simp only [List.length_cons, List.length_append, List.length_map, List.length_nil, List.length_set, List.length_replicate, rep_length, Nat.zero_add, Nat.mul_one]; omega) | (refine mul_ok ?_ ?_ <;> omega) | (refine cdiv_ok ?_ ?_ <;> omega) | (simp; done) | fail) [play_fault_b1, hsl, ht, oD, is_tup_card, pf_c1, hf, hi, nin_cards, hm, m1, m2]
          · rw [if_neg m2] at ev
            rw [ev]
            simp (disch := first | assumption | omega | (simp only [List.length_cons, List.length_append, List.length_map, List.length_nil, List.length_set, List.length_replicate, rep_length, Nat.zero_add, Nat.mul_one]; omega) | (refine mul_ok ?_ ?_ <;> omega) | (refine cdiv_ok ?_ ?_ <;> omega) | (simp; done) | fail) [play_fault_b1, hsl, ht, oD, is_tup_card, pf_c1, hf, hi, nin_cards, hm, m1, m2]
        · rw [if_neg m1] at ev
          rw [ev]
          simp (disch := first | assumption | omega | (simp only [List.length_cons, List.length_append, List.length_map, List.length_nil, List.length_set, List.length_replicate, rep_length, Nat.zero_add, Nat.mul_one]; omega) | (refine mul_ok ?_ ?_ <;> omega) | (refine cdiv_ok ?_ ?_ <;> omega) | (simp; done) | fail) [play_fault_b1, hsl, ht, oD, is_tup_card, pf_c1, hf, hi, nin_cards, m1]
    have := for_first (fun q : Card × Nat => D.ltp [.int q.2, cD q.1]) (fun q => (pfC r d s l (cs.take q.2) q.1).isSome) (fV r d s l cs) (tg := tupT (consT (nmT 4) (consT (nmT 5) (nilT)))) (body := play_fault_b1) (ks := [4, 5, 6, 7]) (ρ := [some (dealD d), some (.int s), some (.int l), some (handD cs), none, none, none, none, none]) (st := st) (l0 := pairsN (cs.map cD)) cs.zipIdx
      (fun q _ hp k2 => by
        obtain ⟨c, j⟩ := q
        have := body c j k2
        rw [hp, if_neg Bool.false_ne_true] at this
        exact this)
      (fun q _ hp k2 => by
        obtain ⟨c, j⟩ := q
        have := body c j k2
        rw [hp, if_pos rfl] at this
        exact this)
    unfold play_fault_l1
    rw [ap_for]
    rw [← pairsN_cards] at this
    unfold handD at this ⊢
    simp (disch := first | assumption | omega | (simp only [List.length_cons, List.length_append, List.length_map, List.length_nil, List.length_set, List.length_replicate, rep_length, Nat.zero_add, Nat.mul_one]; omega) | (refine mul_ok ?_ ?_ <;> omega) | (refine cdiv_ok ?_ ?_ <;> omega) | (simp; done) | fail)
    refine this.trans ?_
    unfold faultV
    cases cs.zipIdx.find? (fun q => (pfC r d s l (cs.take q.2) q.1).isSome) <;> rfl
  unfold oFV
  cases hf : faultV r d s l cs with
  | none =>
    rw [hf] at loop
    simp (disch := first | assumption | omega | (simp only [List.length_cons, List.length_append, List.length_map, List.length_nil, List.length_set, List.length_replicate, rep_length, Nat.zero_add, Nat.mul_one]; omega) | (refine mul_ok ?_ ?_ <;> omega) | (refine cdiv_ok ?_ ?_ <;> omega) | (simp; done) | fail) [f_play_fault, b_play_fault, loop]
  | some q =>
    rw [hf] at loop
    have : lo st.length (fV r d s l cs q) = true := rfl
    simp (disch := first | assumption | omega | (simp only [List.length_cons, List.length_append, List.length_map, List.length_nil, List.length_set, List.length_replicate, rep_length, Nat.zero_add, Nat.mul_one]; omega) | (refine mul_ok ?_ ?_ <;> omega) | (refine cdiv_ok ?_ ?_ <;> omega) | (simp; done) | fail) [f_play_fault, b_play_fault, loop, this]
end DL

namespace DL
open PySem PySem.Spec PyProof.Rows L2
/-! ### plays, in plain -/
inductive Play (r : Nat) (d : List (List Card)) (s l : Int) : List Card → Prop
  | nil : Play r d s l []
  | snoc {cs c} : Play r d s l cs → c ∈ mayP r d s l cs → Play r d s l (cs ++ [c])
section
variable {r : Nat} {d : List (List Card)} {s l : Int} {cs : List Card} {c : Card}
theorem trick_snoc {i : Nat} (h : 4 * (i + 1) ≤ cs.length) : trickAt (cs ++ [c]) i = trickAt cs i := by
  unfold trickAt
  rw [List.drop_append_of_le_length (by omega), List.take_append_of_le_length (by rw [List.length_drop]; omega)]
theorem wk_snoc : ∀ {i : Nat}, 4 * i ≤ cs.length → wk s l (cs ++ [c]) i = wk s l cs i
  | 0, _ => rfl
  | i + 1, h => by
    unfold wk
    rw [wk_snoc (i := i) (by omega), trick_snoc h]
theorem wk_range (hl : 0 ≤ l ∧ l < 4) : ∀ i, 0 ≤ (wk s l cs i).1 ∧ (wk s l cs i).1 < 4
  | 0 => hl
  | i + 1 => win_range
theorem lead_range (hl : 0 ≤ l ∧ l < 4) : 0 ≤ leadP s l cs ∧ leadP s l cs < 4 := wk_range hl _
theorem wk_sum : ∀ i, (wk s l cs i).2.1 + (wk s l cs i).2.2 = i
  | 0 => rfl
  | i + 1 => by
    have := wk_sum i
    show (wk s l cs i).2.1 + (if _ then 1 else 0) + ((wk s l cs i).2.2 + (if _ then 0 else 1)) = i + 1
    split <;> omega
/-- a row goes on in a trick -/
theorem snoc_in (h : cs.length % 4 ≠ 3) : leadP s l (cs ++ [c]) = leadP s l cs ∧ wonP s l (cs ++ [c]) = wonP s l cs ∧ curP (cs ++ [c]) = curP cs ++ [c] := by
  have e : (cs ++ [c]).length / 4 = cs.length / 4 := by rw [List.length_append]; simp; omega
  unfold leadP wonP curP
  rw [e, wk_snoc (by omega), List.drop_append_of_le_length (by omega)]
  exact ⟨rfl, rfl, rfl⟩
/-- a trick ends -/
theorem snoc_end (h : cs.length % 4 = 3) : leadP s l (cs ++ [c]) = winP s (leadP s l cs) (curP cs ++ [c]) ∧ wonP s l (cs ++ [c]) = ((wonP s l cs).1 + (if leadP s l (cs ++ [c]) % 2 = 0 then 1 else 0), (wonP s l cs).2 + (if leadP s l (cs ++ [c]) % 2 = 0 then 0 else 1)) ∧ curP (cs ++ [c]) = [] := by
  have e : (cs ++ [c]).length / 4 = cs.length / 4 + 1 := by rw [List.length_append]; simp; omega
  have et : trickAt (cs ++ [c]) (cs.length / 4) = curP cs ++ [c] := by
    unfold trickAt curP
    rw [List.drop_append_of_le_length (by omega), Nat.mul_comm, List.take_of_length_le (by simp; omega)]
  have ew : wk s l (cs ++ [c]) (cs.length / 4) = wk s l cs (cs.length / 4) := wk_snoc (by omega)
  have ec : curP (cs ++ [c]) = [] := by
    unfold curP
    exact List.drop_eq_nil_of_le (by rw [List.length_append]; simp; omega)
  have el : leadP s l (cs ++ [c]) = winP s (leadP s l cs) (curP cs ++ [c]) := by
    unfold leadP
    rw [e]
    show winP s (wk s l (cs ++ [c]) (cs.length / 4)).1 (trickAt (cs ++ [c]) (cs.length / 4)) = _
    rw [et, ew]
  refine ⟨el, ?_, ec⟩
  rw [el]
  unfold wonP
  rw [e]
  show ((wk s l (cs ++ [c]) (cs.length / 4)).2.1 + (if winP s (wk s l (cs ++ [c]) (cs.length / 4)).1 (trickAt (cs ++ [c]) (cs.length / 4)) % 2 = 0 then 1 else 0), (wk s l (cs ++ [c]) (cs.length / 4)).2.2 + (if winP s (wk s l (cs ++ [c]) (cs.length / 4)).1 (trickAt (cs ++ [c]) (cs.length / 4)) % 2 = 0 then 0 else 1)) = _
  rw [et, ew]
  rfl
/-- what q has left -/
def leftQ (d : List (List Card)) (cs : List Card) (q : Nat) : List Card := (leftP d cs)[q]?.getD []
theorem leftQ_snoc {q : Nat} : leftQ d (cs ++ [c]) q = (leftQ d cs q).filter fun x => !decide (x = c) := by
  unfold leftQ leftP
  rw [List.getElem?_map, List.getElem?_map]
  cases d[q]? with
  | none => rfl
  | some h =>
    show (h.filter fun x => !decide (x ∈ cs ++ [c])) = (h.filter fun x => !decide (x ∈ cs)).filter _
    rw [List.filter_filter]
    congr 1
    funext x
    by_cases h1 : x ∈ cs <;> by_cases h2 : x = c <;> simp [h1, h2]
theorem mem_leftQ {q : Nat} {x : Card} : x ∈ leftQ d cs q ↔ x ∈ d[q]?.getD [] ∧ x ∉ cs := by
  unfold leftQ leftP
  rw [List.getElem?_map]
  cases d[q]? with
  | none => simp
  | some h =>
    show (x ∈ h.filter fun x => !decide (x ∈ cs)) ↔ x ∈ h ∧ _
    rw [List.mem_filter]
    simp
theorem Deal.uniq (hD : Deal r d) {p q : Nat} {x : Card} (h1 : x ∈ d[p]?.getD []) (h2 : x ∈ d[q]?.getD []) : p = q := by
  have hp := (List.pairwise_flatten.mp hD.nd).2
  rcases Nat.lt_trichotomy p q with h | h | h
  · exfalso
    cases e1 : d[p]? with
    | none => rw [e1] at h1; simp at h1
    | some a =>
      cases e2 : d[q]? with
      | none => rw [e2] at h2; simp at h2
      | some b =>
        rw [e1] at h1
        rw [e2] at h2
        obtain ⟨i1, j1⟩ := List.getElem?_eq_some_iff.mp e1
        obtain ⟨i2, j2⟩ := List.getElem?_eq_some_iff.mp e2
        have := List.pairwise_iff_getElem.mp hp p q i1 i2 h
        rw [j1, j2] at this
        exact this x h1 x h2 rfl
  · exact h
  · exfalso
    cases e1 : d[p]? with
    | none => rw [e1] at h1; simp at h1
    | some a =>
      cases e2 : d[q]? with
      | none => rw [e2] at h2; simp at h2
      | some b =>
        rw [e1] at h1
        rw [e2] at h2
        obtain ⟨i1, j1⟩ := List.getElem?_eq_some_iff.mp e1
        obtain ⟨i2, j2⟩ := List.getElem?_eq_some_iff.mp e2
        have := List.pairwise_iff_getElem.mp hp q p i2 i1 h
        rw [j1, j2] at this
        exact this x h2 x h1 rfl
theorem Deal.ndq (hD : Deal r d) (q : Nat) : (d[q]?.getD []).Nodup := by
  cases e : d[q]? with
  | none => exact List.nodup_nil
  | some h => exact (List.pairwise_flatten.mp hD.nd).1 h (List.mem_of_getElem? e)
theorem leftQ_nd (hD : Deal r d) (q : Nat) : (leftQ d cs q).Nodup := by
  have := hD.ndq q
  unfold leftQ leftP
  rw [List.getElem?_map]
  cases e : d[q]? with
  | none => exact List.nodup_nil
  | some h =>
    rw [e] at this
    exact List.Pairwise.filter _ this
theorem rem_len {A : Type} [DecidableEq A] {x : A} : ∀ {xs : List A}, xs.Nodup → x ∈ xs → (xs.filter fun y => !decide (y = x)).length + 1 = xs.length
  | y :: ys, hn, hm => by
    rw [List.nodup_cons] at hn
    by_cases h : y = x
    · subst h
      have : (ys.filter fun z => !decide (z = y)) = ys := List.filter_eq_self.mpr fun z hz => by
        have : z ≠ y := fun e => hn.1 (e ▸ hz)
        simp [this]
      rw [List.filter_cons, if_neg (by simp), this]
      rfl
    · have hm2 : x ∈ ys := by
        rcases List.mem_cons.mp hm with e | e
        · exact absurd e.symm h
        · exact e
      have := rem_len hn.2 hm2
      rw [List.filter_cons, if_pos (by simp [h]), List.length_cons, List.length_cons]
      omega
theorem rem_no {A : Type} [DecidableEq A] {x : A} {xs : List A} (h : x ∉ xs) : (xs.filter fun y => !decide (y = x)) = xs := List.filter_eq_self.mpr fun z hz => by
  have : z ≠ x := fun e => h (e ▸ hz)
  simp [this]
theorem turn_some {p : Int} (h : turnP r s l cs = some p) : cs.length ≠ 4 * r ∧ p = (leadP s l cs + (cs.length % 4 : Nat)) % 4 := by
  unfold turnP at h
  split at h
  · cases h
  · cases h
    exact ⟨by assumption, rfl⟩
theorem may_left {p : Int} (h : turnP r s l cs = some p) (hc : c ∈ mayP r d s l cs) : c ∈ leftQ d cs p.toNat := by
  have e : mayP r d s l cs = if ((leftQ d cs p.toNat).filter (follow (curP cs))).isEmpty then leftQ d cs p.toNat else (leftQ d cs p.toNat).filter (follow (curP cs)) := by
    unfold mayP
    rw [h]
    rfl
  rw [e] at hc
  split at hc
  · exact hc
  · exact (List.mem_filter.mp hc).1
theorem may_turn (hc : c ∈ mayP r d s l cs) : ∃ p, turnP r s l cs = some p := by
  unfold mayP at hc
  cases h : turnP r s l cs with
  | none => rw [h] at hc; cases hc
  | some p => exact ⟨p, rfl⟩
structure PInv (r : Nat) (d : List (List Card)) (s l : Int) (cs : List Card) : Prop where
  left : ∀ q : Nat, q < 4 → (leftQ d cs q).length + cs.length / 4 + (if ((q : Int) - leadP s l cs) % 4 < (cs.length % 4 : Nat) then 1 else 0) = r
  nd : cs.Nodup
  of : ∀ c ∈ cs, c ∈ d.flatten
theorem Play.inv (hD : Deal r d) (hl : 0 ≤ l ∧ l < 4) (h : Play r d s l cs) : PInv r d s l cs := by
  induction h with
  | nil =>
    refine ⟨fun q hq => ?_, List.nodup_nil, fun c h => nomatch h⟩
    have : (leftQ d [] q).length = r := by
      unfold leftQ leftP
      have hqd : q < d.length := by have := hD.four; omega
      rw [List.getElem?_map, List.getElem?_eq_getElem hqd]
      show (List.filter _ d[q]).length = r
      rw [List.filter_eq_self.mpr fun _ _ => by simp]
      exact hD.each _ (List.getElem_mem _)
    rw [this, if_neg (by simp; omega)]
    simp
  | @snoc cs c hP hm ih =>
    obtain ⟨p, hp⟩ := may_turn hm
    obtain ⟨t1, t2⟩ := turn_some hp
    have hcl := may_left hp hm
    have pr := turn_range hp
    have lr := lead_range (s := s) (cs := cs) hl
    have cm := mem_leftQ.mp hcl
    refine ⟨fun q hq => ?_, ?_, ?_⟩
    · have iq := ih.left q hq
      have hlen : (cs ++ [c]).length = cs.length + 1 := by simp
      have hql : (leftQ d (cs ++ [c]) q).length + (if (q : Int) = p then 1 else 0) = (leftQ d cs q).length := by
        rw [leftQ_snoc]
        by_cases e : (q : Int) = p
        · have : p.toNat = q := by omega
          rw [this] at hcl
          rw [if_pos e]
          exact rem_len (leftQ_nd hD q) hcl
        · rw [if_neg e, rem_no fun z => e (by
            have := hD.uniq (mem_leftQ.mp z).1 cm.1
            omega)]
          rfl
      by_cases h3 : cs.length % 4 = 3
      · have lr2 := lead_range (s := s) (cs := cs ++ [c]) hl
        rw [hlen]
        generalize leadP s l (cs ++ [c]) = L2 at *
        generalize leadP s l cs = L at *
        rw [if_neg (by omega)]
        split at iq <;> split at hql <;> omega
      · rw [(snoc_in h3).1, hlen]
        generalize leadP s l cs = L at *
        split at iq <;> split at hql <;> split <;> omega
    · exact List.nodup_append.mpr ⟨ih.nd, by simp, fun a ha b hb => by
        rw [List.mem_singleton] at hb
        subst hb
        intro e
        subst e
        exact cm.2 ha⟩
    · intro x hx
      rcases List.mem_append.mp hx with hx | hx
      · exact ih.of x hx
      · rw [List.mem_singleton] at hx
        subst hx
        cases e : d[p.toNat]? with
        | none => rw [e] at cm; simp at cm
        | some h =>
          rw [e] at cm
          exact List.mem_flatten.mpr ⟨h, List.mem_of_getElem? e, cm.1⟩
theorem PInv.le (h : PInv r d s l cs) (hl : 0 ≤ l ∧ l < 4) : cs.length ≤ 4 * r := by
  have lr := lead_range (s := s) (cs := cs) hl
  have := h.left (leadP s l cs).toNat (by omega)
  generalize leadP s l cs = L at *
  split at this <;> omega
theorem PInv.hand (h : PInv r d s l cs) (hl : 0 ≤ l ∧ l < 4) {p : Int} (hp : turnP r s l cs = some p) : leftQ d cs p.toNat ≠ [] := by
  have lr := lead_range (s := s) (cs := cs) hl
  obtain ⟨t1, t2⟩ := turn_some hp
  have pr := turn_range hp
  have := h.left p.toNat (by omega)
  have hle := h.le hl
  generalize leadP s l cs = L at *
  intro e
  rw [e] at this
  rw [if_neg (by omega)] at this
  simp at this
  omega
theorem PInv.may (h : PInv r d s l cs) (hl : 0 ≤ l ∧ l < 4) (hn : cs.length ≠ 4 * r) : mayP r d s l cs ≠ [] := by
  have hp : turnP r s l cs = some ((leadP s l cs + (cs.length % 4 : Nat)) % 4) := if_neg hn
  have := h.hand hl hp
  unfold mayP
  rw [hp]
  show (if ((leftQ d cs _).filter (follow (curP cs))).isEmpty = true then leftQ d cs _ else (leftQ d cs _).filter (follow (curP cs))) ≠ []
  split
  · exact this
  · rename_i z
    intro e
    rw [e] at z
    exact z rfl
theorem PInv.sum (h : PInv r d s l cs) (hl : 0 ≤ l ∧ l < 4) : (leftQ d cs 0).length + (leftQ d cs 1).length + (leftQ d cs 2).length + (leftQ d cs 3).length + cs.length = 4 * r := by
  have lr := lead_range (s := s) (cs := cs) hl
  have h0 := h.left 0 (by omega)
  have h1 := h.left 1 (by omega)
  have h2 := h.left 2 (by omega)
  have h3 := h.left 3 (by omega)
  generalize leadP s l cs = L at *
  rcases (show L = 0 ∨ L = 1 ∨ L = 2 ∨ L = 3 by omega) with rfl | rfl | rfl | rfl <;> rcases (show cs.length % 4 = 0 ∨ cs.length % 4 = 1 ∨ cs.length % 4 = 2 ∨ cs.length % 4 = 3 by omega) with e | e | e | e <;> rw [e] at h0 h1 h2 h3 <;> simp at h0 h1 h2 h3 <;> omega
end
end DL

namespace DL
open PySem PySem.Spec PyProof.Rows L2
/-! ### faults behind a play -/
section
variable {r : Nat} {d : List (List Card)} {s l : Int} {cs : List Card} {c : Card}
theorem Play.each (h : Play r d s l cs) : ∀ j c, cs[j]? = some c → c ∈ mayP r d s l (cs.take j) := by
  induction h with
  | nil => intro j c h; simp at h
  | @snoc cs c h hm ih =>
    intro j x hd
    by_cases hj : j < cs.length
    · rw [List.getElem?_append_left hj] at hd
      rw [List.take_append_of_le_length (Nat.le_of_lt hj)]
      exact ih j x hd
    · have hj2 := (List.getElem?_eq_some_iff.mp hd).1
      have e : j = cs.length := by simp at hj2; omega
      subst e
      have : x = c := by simpa using hd.symm
      subst this
      rw [List.take_left]
      exact hm
theorem Play.take (h : Play r d s l cs) : ∀ j, Play r d s l (cs.take j) := by
  induction h with
  | nil => intro j; rw [List.take_nil]; exact .nil
  | @snoc cs c h hm ih =>
    intro j
    by_cases hj : j ≤ cs.length
    · rw [List.take_append_of_le_length hj]
      exact ih j
    · rw [List.take_of_length_le (by simp; omega)]
      exact .snoc h hm
theorem pf_some {p : Int} (h : turnP r s l cs = some p) : pfC r d s l cs c = if c ∈ leftQ d cs p.toNat then (if c ∈ mayP r d s l cs then none else some (Str.ofString "follow")) else some (Str.ofString "hand") := by
  unfold pfC
  rw [h]
  rfl
theorem pf_may (hc : c ∈ mayP r d s l cs) : pfC r d s l cs c = none := by
  obtain ⟨p, h⟩ := may_turn hc
  rw [pf_some h, if_pos (may_left h hc), if_pos hc]
theorem zipc_mem {q : Card × Nat} (h : q ∈ cs.zipIdx) : cs[q.2]? = some q.1 := List.mk_mem_zipIdx_iff_getElem?.mp h
theorem fv_play (h : Play r d s l cs) : faultV r d s l cs = none := List.find?_eq_none.mpr fun q hq => by
  rw [pf_may (h.each q.2 q.1 (zipc_mem hq))]
  simp
theorem fv_snoc (h : Play r d s l cs) : faultV r d s l (cs ++ [c]) = if (pfC r d s l cs c).isSome = true then some (c, cs.length) else none := by
  unfold faultV
  have ez : (cs ++ [c]).zipIdx = cs.zipIdx ++ [(c, cs.length)] := by
    rw [List.zipIdx_append]
    simp [List.zipIdx]
  rw [ez, List.find?_append]
  have e : cs.zipIdx.find? (fun q => (pfC r d s l ((cs ++ [c]).take q.2) q.1).isSome) = none := List.find?_eq_none.mpr fun q hq => by
    have hz := zipc_mem hq
    rw [List.take_append_of_le_length (Nat.le_of_lt (List.getElem?_eq_some_iff.mp hz).1), pf_may (h.each q.2 q.1 hz)]
    simp
  rw [e, Option.none_or, List.find?_cons]
  simp only [List.take_left]
  cases pfC r d s l cs c <;> rfl
theorem of_may (h : Play r d s l cs) (hc : c ∈ mayP r d s l cs) : oFV r d s l (cs ++ [c]) = .non := by
  unfold oFV
  rw [fv_snoc h, pf_may hc]
  rfl
theorem of_no (h : Play r d s l cs) {x : Str} (hc : pfC r d s l cs c = some x) : oFV r d s l (cs ++ [c]) = .tup [.int (cs.length : Nat), .str x] := by
  unfold oFV
  rw [fv_snoc h, hc]
  show fV r d s l (cs ++ [c]) (c, cs.length) = _
  unfold fV
  dsimp only
  rw [List.take_left, hc]
  rfl
/-! ### who wins -/
def Best (s : Int) (t0 : Card) (tr : List Card) (i : Nat) (b : Card) : Prop := (b.1 = t0.1 ∨ b.1 = s) ∧ ∀ j c, j ≤ i → tr[j]? = some c → (c.1 = b.1 → c.2 ≤ b.2) ∧ (c.1 = s → b.1 = s)
theorem best_is {s : Int} {t0 : Card} {ts : List Card} : ∀ i, i < (t0 :: ts).length → ∃ b, (t0 :: ts)[bestN s (t0 :: ts) i]? = some b ∧ Best s t0 (t0 :: ts) i b
  | 0, _ => ⟨t0, rfl, .inl rfl, fun j c hj hc => by
    have : j = 0 := by omega
    subst this
    cases hc
    exact ⟨fun _ => Int.le_refl _, id⟩⟩
  | i + 1, h => by
    obtain ⟨b, hb, h1, h2⟩ := best_is (s := s) (t0 := t0) (ts := ts) i (by omega)
    obtain ⟨c, hc⟩ : ∃ c, (t0 :: ts)[i + 1]? = some c := ⟨_, List.getElem?_eq_getElem h⟩
    have e : bestN s (t0 :: ts) (i + 1) = if beats s b c = true then i + 1 else bestN s (t0 :: ts) i := by
      show (match (t0 :: ts)[bestN s (t0 :: ts) i]?, (t0 :: ts)[i + 1]? with | some b, some c => _ | _, _ => _) = _
      rw [hb, hc]
    rw [e]
    by_cases hbt : beats s b c = true
    · rw [if_pos hbt]
      refine ⟨c, hc, ?_⟩
      unfold beats at hbt
      simp only [Bool.or_eq_true, Bool.and_eq_true, decide_eq_true_eq, Bool.not_eq_true', decide_eq_false_iff_not] at hbt
      rcases hbt with ⟨k1, k2⟩ | ⟨k1, k2⟩
      · refine ⟨by rw [k1]; exact h1, fun j x hj hx => ?_⟩
        by_cases ej : j = i + 1
        · subst ej
          rw [hc] at hx
          cases hx
          exact ⟨fun _ => Int.le_refl _, id⟩
        · have := h2 j x (by omega) hx
          rw [k1]
          exact ⟨fun z => by have := this.1 z; omega, this.2⟩
      · refine ⟨.inr k1, fun j x hj hx => ?_⟩
        by_cases ej : j = i + 1
        · subst ej
          rw [hc] at hx
          cases hx
          exact ⟨fun _ => Int.le_refl _, id⟩
        · have := h2 j x (by omega) hx
          exact ⟨fun z => absurd (this.2 (z.trans k1)) k2, fun _ => k1⟩
    · rw [if_neg hbt]
      refine ⟨b, hb, h1, fun j x hj hx => ?_⟩
      by_cases ej : j = i + 1
      · subst ej
        rw [hc] at hx
        cases hx
        unfold beats at hbt
        simp only [Bool.or_eq_true, Bool.and_eq_true, decide_eq_true_eq, Bool.not_eq_true', decide_eq_false_iff_not, not_or, not_and, Decidable.not_not] at hbt
        exact ⟨fun z => by have := hbt.1 z; omega, hbt.2⟩
      · exact h2 j x (by omega) hx
/-! ### at the end -/
theorem PInv.done (h : PInv r d s l cs) (hD : Deal r d) (hl : 0 ≤ l ∧ l < 4) (hn : cs.length = 4 * r) : leftP d cs = [[], [], [], []] := by
  have hs := h.sum hl
  have h4 : (leftP d cs).length = 4 := by unfold leftP; rw [List.length_map, hD.four]
  have z : ∀ q, (leftQ d cs q).length = 0 → q < 4 → (leftP d cs)[q]? = some [] := fun q hq hq4 => by
    unfold leftQ at hq
    rw [List.getElem?_eq_getElem (by omega)] at hq ⊢
    rw [Option.getD_some] at hq
    rw [List.length_eq_zero_iff.mp hq]
  have z0 := z 0 (by omega) (by omega)
  have z1 := z 1 (by omega) (by omega)
  have z2 := z 2 (by omega) (by omega)
  have z3 := z 3 (by omega) (by omega)
  refine List.ext_getElem? fun i => ?_
  rcases (show i = 0 ∨ i = 1 ∨ i = 2 ∨ i = 3 ∨ 4 ≤ i by omega) with rfl | rfl | rfl | rfl | hi
  · exact z0
  · exact z1
  · exact z2
  · exact z3
  · rw [List.getElem?_eq_none (by omega), List.getElem?_eq_none (by simpa using hi)]
theorem PInv.perm (h : PInv r d s l cs) (hD : Deal r d) (hl : 0 ≤ l ∧ l < 4) (hn : cs.length = 4 * r) : cs.Perm d.flatten := by
  refine (List.perm_ext_iff_of_nodup h.nd hD.nd).mpr fun a => ⟨h.of a, fun ha => ?_⟩
  obtain ⟨hd, hm, ha⟩ := List.mem_flatten.mp ha
  have e := h.done hD hl hn
  have : (hd.filter fun c => !decide (c ∈ cs)) ∈ leftP d cs := List.mem_map.mpr ⟨hd, hm, rfl⟩
  rw [e] at this
  have : (hd.filter fun c => !decide (c ∈ cs)) = [] := by simpa using this
  have := List.filter_eq_nil_iff.mp this a ha
  simpa using this
theorem cle_trans (a b c : Card) (h1 : cle a b = true) (h2 : cle b c = true) : cle a c = true := by
  unfold cle at *
  simp only [Bool.or_eq_true, Bool.and_eq_true, decide_eq_true_eq] at *
  omega
theorem cle_total (a b : Card) : (cle a b || cle b a) = true := by
  unfold cle
  simp only [Bool.or_eq_true, Bool.and_eq_true, decide_eq_true_eq] at *
  omega
theorem cle_anti {a b : Card} (h1 : cle a b = true) (h2 : cle b a = true) : a = b := by
  unfold cle at *
  simp only [Bool.or_eq_true, Bool.and_eq_true, decide_eq_true_eq] at *
  exact Prod.ext (by omega) (by omega)
theorem suit_pw (r k : Nat) : (suitC r k).Pairwise fun a b => cle a b = true := by
  unfold suitC
  rw [List.pairwise_map]
  refine List.Pairwise.imp ?_ List.pairwise_lt_range
  intro a b h
  show cle ((k : Int), 1 + (a : Int)) ((k : Int), 1 + (b : Int)) = true
  unfold cle
  simp only [Bool.or_eq_true, Bool.and_eq_true, decide_eq_true_eq]
  right
  exact ⟨trivial, by omega⟩
theorem flat_pw (r : Nat) : ∀ m, ((List.range m).flatMap (suitC r)).Pairwise fun a b => cle a b = true
  | 0 => List.Pairwise.nil
  | m + 1 => by
    rw [flat_succ, List.pairwise_append]
    refine ⟨flat_pw r m, suit_pw r m, fun a ha b hb => ?_⟩
    obtain ⟨k, hk, ha⟩ := List.mem_flatMap.mp ha
    have := List.mem_range.mp hk
    unfold suitC at ha hb
    obtain ⟨i, _, rfl⟩ := List.mem_map.mp ha
    obtain ⟨j, _, rfl⟩ := List.mem_map.mp hb
    unfold cle
    simp only [Bool.or_eq_true, Bool.and_eq_true, decide_eq_true_eq]
    omega
theorem all_pw (r : Nat) : (allC r).Pairwise fun a b => cle a b = true := flat_pw r 4
theorem all_nd (r : Nat) : (allC r).Nodup := by
  unfold allC
  have one : ∀ k, (suitC r k).Nodup := fun k => by
    unfold suitC
    exact List.pairwise_map.mpr (List.Pairwise.imp (R := fun a b : Nat => a < b) (fun {a b} h (e : ((k : Int), 1 + (a : Int)) = ((k : Int), 1 + (b : Int))) => by
      have := congrArg Prod.snd e
      dsimp only at this
      omega) List.pairwise_lt_range)
  have : ∀ m, ((List.range m).flatMap (suitC r)).Nodup := fun m => by
    induction m with
    | zero => exact List.nodup_nil
    | succ m ih =>
      rw [flat_succ]
      refine List.nodup_append.mpr ⟨ih, one m, fun a ha b hb e => ?_⟩
      subst e
      obtain ⟨k, hk, ha⟩ := List.mem_flatMap.mp ha
      have := List.mem_range.mp hk
      unfold suitC at ha hb
      obtain ⟨i, _, e1⟩ := List.mem_map.mp ha
      obtain ⟨j, _, e2⟩ := List.mem_map.mp hb
      have := congrArg Prod.fst (e1.trans e2.symm)
      dsimp only at this
      omega
  exact this 4
theorem sort_all {xs : List Card} (h : xs.Perm (allC r)) : sortC xs = allC r := by
  refine List.Perm.eq_of_pairwise (le := fun a b => cle a b = true) (fun a b _ _ h1 h2 => cle_anti h1 h2) ?_ (all_pw r) ((sortC_perm xs).trans h)
  exact List.pairwise_mergeSort cle_trans cle_total xs
theorem deal_of {xs : List Card} (h : xs.Perm (allC r)) : Deal r (handsOf r xs) := by
  have hlen : xs.length = 4 * r := by rw [h.length_eq, allC_length]
  exact ⟨rfl, hand_len hlen, ((hands_flat hlen).trans h).nodup_iff.mpr (all_nd r)⟩
end
end DL

namespace DL
open PySem PySem.Spec PyProof.Rows L2
/-! ### comprehensions, loops over a cell -/
section
variable {A : Type} {it : ItD} {tg : Tgt} {tt : DenB} {elt : Den} {ρw : Env} {s0 : Store} {enc : A → D}
theorem comp_goS (f : A → Option D) (hst : ∀ s1, it.still (s0 ++ [s1])) : ∀ (l : List A) (acc : List D), (∀ x ∈ l, ∀ s1, turnC tg tt elt ρw (s0 ++ [s1]) (enc x) (f x)) → loL s0.length (acc ++ l.filterMap f) = true → acc.length + l.length ≤ sizeLine →
    compGo it tg tt elt ρw s0 (l.map enc) acc (s0 ++ [.lst acc]) = .ok (.lst (acc ++ l.filterMap f)) s0
  | [], acc, _, hl, _ => by
    show compGo it tg tt elt ρw s0 [] acc (s0 ++ [.lst acc]) = _
    unfold compGo
    rw [guardR_pos ⟨hst _, by simp, by rw [List.getElem?_append_right (Nat.le_refl _)]; simp⟩]
    rw [List.filterMap_nil, List.append_nil] at hl ⊢
    exact cutR_app hl
  | x :: l, acc, h, hl, hsz => by
    show compGo it tg tt elt ρw s0 (enc x :: l.map enc) acc (s0 ++ [.lst acc]) = _
    unfold compGo
    rw [guardR_pos (hst _)]
    obtain ⟨ρ', e1, e2⟩ := h x (by simp) (.lst acc)
    rw [e1]
    cases hf : f x with
    | none =>
      rw [hf] at e2
      have e2 : tt ρ' (s0 ++ [.lst acc]) = .ok false (s0 ++ [.lst acc]) := e2
      simp only [tgtR_some, e2, noX_ok, bind_ok']
      rw [if_neg (by decide), guardR_pos (by simp)]
      have := comp_goS f hst l acc (fun y hy => h y (by simp [hy])) (by simpa [hf] using hl) (by simp only [List.length_cons] at hsz; omega)
      rw [this]
      simp [hf]
    | some d =>
      rw [hf] at e2
      obtain ⟨e2, e3⟩ := (show tt ρ' (s0 ++ [.lst acc]) = .ok true (s0 ++ [.lst acc]) ∧ elt ρ' (s0 ++ [.lst acc]) = .ok d (s0 ++ [.lst acc]) from e2)
      simp only [tgtR_some, e2, e3, noX_ok, bind_ok']
      rw [if_pos trivial, guardR_pos ⟨by simp, by rw [List.getElem?_append_right (Nat.le_refl _)]; simp, by simp only [List.length_cons] at hsz; omega⟩]
      rw [show (s0 ++ [Cell.lst acc]).set s0.length (.lst (acc ++ [d])) = s0 ++ [.lst (acc ++ [d])] by rw [List.set_append_right _ _ (Nat.le_refl _)]; simp]
      have e4 : acc ++ [d] ++ l.filterMap f = acc ++ (x :: l).filterMap f := by simp [hf]
      have := comp_goS f hst l (acc ++ [d]) (fun y hy => h y (by simp [hy])) (by rw [e4]; exact hl) (by simp only [List.length_cons, List.length_append, List.length_nil] at hsz ⊢; omega)
      rw [this, e4]
end
section
variable {A : Type} {f : DenI} {tg : Tgt} {tt : DenB} {elt : Den} {own : List Nat} {ρ : Env} {st : Store} {enc : A → D} {body : DenS} {ks : List Nat}
/-- [elt for x in cell if p x] -/
theorem cIfR {n : Nat} {l : List A} (p : A → Bool) (g : A → D) (hn : st[n]? = some (.lst (l.map enc))) (hf : f ρ st = .ok ⟨l.map enc, some (n, l.map enc)⟩ st) (h : ∀ x ∈ l, ∀ s1, ∃ ρ', tg (enc x) (killE own ρ) = some ρ' ∧ tt ρ' (st ++ [s1]) = .ok (p x) (st ++ [s1]) ∧ (p x = true → elt ρ' (st ++ [s1]) = .ok (g x) (st ++ [s1])))
    (hlo : ∀ x ∈ l, lo st.length (g x) = true) (hsz : l.length ≤ 16777216) : compE f tg tt elt own ρ st = .ok (.lst ((l.filter p).map g)) st := by
  rw [ap_comp, hf]
  have e : l.filterMap (fun x => if p x then some (g x) else none) = (l.filter p).map g := by
    clear h hlo hsz hf hn
    induction l with
    | nil => rfl
    | cons x l ih => by_cases hp : p x <;> simp [hp, ih]
  have := comp_goS (it := ⟨l.map enc, some (n, l.map enc)⟩) (tg := tg) (tt := tt) (elt := elt) (ρw := killE own ρ) (s0 := st) (enc := enc) (fun x => if p x then some (g x) else none) (fun s1 => by
      show (st ++ [s1])[n]? = _
      rw [List.getElem?_append_left (List.getElem?_eq_some_iff.mp hn).1]
      exact hn) l [] (fun x hx s1 => by
    obtain ⟨ρ', e1, e2, e3⟩ := h x hx s1
    refine ⟨ρ', e1, ?_⟩
    cases hp : p x with
    | false => simp [hp] at e2 ⊢; exact e2
    | true => simp [hp] at e2 ⊢; exact ⟨e2, e3 hp⟩) (by
      rw [List.nil_append, e]
      exact lo_list fun y hy => by
        obtain ⟨x, hx, rfl⟩ := List.mem_map.mp hy
        exact hlo x (List.mem_filter.mp hx).1) (by simpa using hsz)
  rw [List.nil_append, e] at this
  exact this
/-- [elt for x in cell] -/
theorem cMapR {n : Nat} {l : List A} (g : A → D) (hn : st[n]? = some (.lst (l.map enc))) (hf : f ρ st = .ok ⟨l.map enc, some (n, l.map enc)⟩ st) (h : ∀ x ∈ l, ∀ s1, ∃ ρ', tg (enc x) (killE own ρ) = some ρ' ∧ elt ρ' (st ++ [s1]) = .ok (g x) (st ++ [s1]))
    (hlo : ∀ x ∈ l, lo st.length (g x) = true) (hsz : l.length ≤ 16777216) : compE f tg yesB elt own ρ st = .ok (.lst (l.map g)) st := by
  have := cIfR (f := f) (tg := tg) (tt := yesB) (elt := elt) (own := own) (enc := enc) (l := l) (fun _ => true) g hn hf (fun x hx s1 => by
    obtain ⟨ρ', e1, e2⟩ := h x hx s1
    exact ⟨ρ', e1, rfl, fun _ => e2⟩) hlo hsz
  rwa [show l.filter (fun _ => true) = l from List.filter_eq_self.mpr fun _ _ => rfl] at this
/-- [elt for x in l], each turn may draw: the store's head changes -/
theorem cDraw {r : Store} {l' : List D} (R : D → Prop) (P : Nat → Cell → Prop) {ρw : Env} : ∀ (l : List D) (m : Nat) (c : Cell) (acc : List D), P m c → (∀ d ∈ acc, R d) →
    (∀ i x c s1, l[i]? = some x → P (m + i) c → ∃ d c' ρ', tg x ρw = some ρ' ∧ elt ρ' (c :: (r ++ [s1])) = .ok d (c' :: (r ++ [s1])) ∧ R d ∧ P (m + i + 1) c') →
    (∀ d, R d → lo (r.length + 1) d = true) → (∀ m c, P m c → loC (r.length + 1) c = true) → acc.length + l.length ≤ 16777216 → ∀ c0 : Cell,
    ∃ ds c', compGo ⟨l', none⟩ tg yesB elt ρw (c0 :: r) l acc (c :: (r ++ [.lst acc])) = .ok (.lst ds) (c' :: r) ∧ (∀ d ∈ ds, R d) ∧ ds.length = acc.length + l.length ∧ P (m + l.length) c'
  | [], m, c, acc, hP, hR, _, hlo, hloc, hsz, c0 => by
    refine ⟨acc, c, ?_, hR, rfl, hP⟩
    unfold compGo
    rw [guardR_pos ⟨trivial, by simp, by
      show (c :: (r ++ [Cell.lst acc]))[r.length + 1]? = _
      rw [List.getElem?_cons_succ, List.getElem?_append_right (Nat.le_refl _)]; simp⟩]
    unfold cutR
    rw [if_pos]
    · simp
    · refine ⟨lo_list fun d hd => hlo d (hR d hd), by simp, fun i c' hi e => ?_⟩
      cases i with
      | zero => cases e; exact .inr (hloc m c hP)
      | succ i =>
        left
        have hi : i < r.length := by simpa using hi
        have e : (r ++ [Cell.lst acc])[i]? = some c' := by simpa using e
        rw [List.getElem?_append_left hi] at e
        simpa using e
  | x :: l, m, c, acc, hP, hR, h, hlo, hloc, hsz, c0 => by
    obtain ⟨d, c', ρ', e1, e2, hd, hP'⟩ := h 0 x c (.lst acc) rfl hP
    obtain ⟨ds, c2, e3, h1, h2, h3⟩ := cDraw (l' := l') R P l (m + 1) c' (acc ++ [d]) hP' (fun y hy => by
      rcases List.mem_append.mp hy with hy | hy
      · exact hR y hy
      · cases List.mem_singleton.mp hy; exact hd) (fun i x c s1 hx hp => by
        have := h (i + 1) x c s1 (by simpa using hx) (by rw [show m + (i + 1) = m + 1 + i by omega]; exact hp)
        rw [show m + (i + 1) = m + 1 + i by omega] at this
        exact this) hlo hloc (by simp only [List.length_cons, List.length_append, List.length_nil] at hsz ⊢; omega) c0
    refine ⟨ds, c2, ?_, h1, by simp at h2 ⊢; omega, by rw [List.length_cons, show m + (l.length + 1) = m + 1 + l.length by omega]; exact h3⟩
    unfold compGo
    rw [guardR_pos (show ItD.still ⟨l', none⟩ (c :: (r ++ [Cell.lst acc])) from trivial), e1]
    simp only [tgtR_some, noX_ok, bind_ok', e2, ap_yes]
    rw [if_pos trivial, guardR_pos ⟨by simp, by
      show (c' :: (r ++ [Cell.lst acc]))[r.length + 1]? = _
      rw [List.getElem?_cons_succ, List.getElem?_append_right (Nat.le_refl _)]; simp, by rw [size_line]; simp only [List.length_cons] at hsz; omega⟩]
    rw [show (c' :: (r ++ [Cell.lst acc])).set (c0 :: r).length (.lst (acc ++ [d])) = c' :: (r ++ [.lst (acc ++ [d])]) by
      show (c' :: (r ++ [Cell.lst acc])).set (r.length + 1) _ = _
      rw [List.set_cons_succ, List.set_append_right _ _ (Nat.le_refl _)]; simp]
    exact e3
end
section
variable {f : DenI} {tg : Tgt} {ρ : Env} {st : Store} {body : DenS} {ks : List Nat}
/-- a loop over a cell that changes nothing -/
theorem fSameR {n : Nat} {l : List D} (hn : st[n]? = some (.lst l)) (hf : f ρ st = .ok ⟨l, some (n, l)⟩ st) (hs : ∀ x ∈ l, ∀ k, (tgtO (tg x ρ) fun ρ' => turnO ks (body ρ' st) k) = k ρ st) : forS f tg body ks ρ st = .next ρ st := by
  obtain ⟨ρ', s', ⟨rfl, rfl⟩, e⟩ := for_all (it := ⟨l, some (n, l)⟩) (tg := tg) (body := body) (ks := ks) (fun _ ρ' s' => ρ' = ρ ∧ s' = st) l 0 ρ st ⟨rfl, rfl⟩ (fun i ρ' s' _ _ ⟨_, e2⟩ => by subst e2; exact hn) (fun i x ρ' s' hx ⟨e1, e2⟩ => by
    subst e1 e2
    exact ⟨_, _, ⟨rfl, rfl⟩, hs x (List.mem_of_getElem? hx)⟩)
  rw [ap_for, hf, forR_ok]
  exact e
/-- a loop over data that changes nothing -/
theorem fSame {l : List D} (hf : f ρ st = .ok ⟨l, none⟩ st) (hs : ∀ x ∈ l, ∀ k, (tgtO (tg x ρ) fun ρ' => turnO ks (body ρ' st) k) = k ρ st) : forS f tg body ks ρ st = .next ρ st := by
  obtain ⟨ρ', s', ⟨rfl, rfl⟩, e⟩ := for_all (it := ⟨l, none⟩) (tg := tg) (body := body) (ks := ks) (fun _ ρ' s' => ρ' = ρ ∧ s' = st) l 0 ρ st ⟨rfl, rfl⟩ (fun i ρ' s' _ _ ⟨_, e2⟩ => trivial) (fun i x ρ' s' hx ⟨e1, e2⟩ => by
    subst e1 e2
    exact ⟨_, _, ⟨rfl, rfl⟩, hs x (List.mem_of_getElem? hx)⟩)
  rw [ap_for, hf, forR_ok]
  exact e
theorem cat_ref {f g : Den} {ρ : Env} {st s1 s2 : Store} {xs ys : List D} {a b : D} (h1 : f ρ st = .ok a s1) (h2 : g ρ s1 = .ok b s2) (h3 : viewL s2 a = some xs) (h4 : viewL s2 b = some ys) (hl : xs.length + ys.length ≤ 16777216) : newCatE f g ρ st = .ok (.ref s2.length) (s2 ++ [.lst (xs ++ ys)]) := by
  unfold newCatE
  rw [h1, bind_ok', h2, bind_ok', h3, h4]
  exact if_pos (by rw [size_line]; exact hl)
@[simp] theorem cell_h2 {c c1 c2 : Cell} {r q : Store} {xs : List D} : cellL (c :: (r ++ c1 :: c2 :: .lst xs :: q)) (.ref (r.length + 1 + 1 + 1)) = some (r.length + 1 + 1 + 1, xs) := cell_at (by
  rw [List.getElem?_cons_succ, List.getElem?_append_right (by omega)]
  rw [show r.length + 1 + 1 - r.length = 2 by omega]
  rfl)
@[simp] theorem set_h2 {c c1 c2 a b : Cell} {r q : Store} : (c :: (r ++ c1 :: c2 :: a :: q)).set (r.length + 1 + 1 + 1) b = c :: (r ++ c1 :: c2 :: b :: q) := by
  rw [List.set_cons_succ, List.set_append_right _ _ (by omega), show r.length + 1 + 1 - r.length = 2 by omega]
  rfl
end
end DL

namespace DL
open PySem PySem.Spec PyProof.Rows L2 PySem.W
def l_trick_won_k13_c1 : Den :=
  compE (itE (varE 2)) (nmT 5) (yesB) (op2 ixD (varE 5) (conE (.int 0))) [5]
def l_trick_won_k13_c2 : Den :=
  compE (itE (varE 2)) (nmT 5) (tru (op2 eqD (op2 ixD (varE 5) (conE (.int 0))) (varE 3))) (varE 5) [5]
def b_l_trick_won_k13 : DenS :=
  seqS (asgS 3 (ifE (tru (op2 inD (varE 0) (l_trick_won_k13_c1))) (varE 0) (op2 ixD (op2 ixD (varE 2) (conE (.int 0))) (conE (.int 0))))) (seqS (asgS 4 (opL maxAO (consL (l_trick_won_k13_c2) (nilL)))) (retS (op2 modD (op2 addD (varE 1) (mcE indexO (varE 2) (consL (varE 4) (nilL)))) (conE (.int 4)))))
def f_l_trick_won_k13 : Fn := defG 6 3 b_l_trick_won_k13
def l_walk_b1 : DenS :=
  seqS (asgS 4 (op2 addD (varE 4) (tupE (consL (varE 5) (nilL))))) (ifS (tru (op2 eqD (opL lenO (consL (varE 4) (nilL))) (conE (.int 4)))) (seqS (parS2 1 4 (consL (callE 3 f_l_trick_won_k13 (consL (varE 0) (consL (varE 1) (consL (varE 4) (nilL))))) (consL (tupE (nilL)) (nilL)))) (setS (op2 addD (op2 ixD (varE 3) (op2 modD (varE 1) (conE (.int 2)))) (conE (.int 1))) (varE 3) (op2 modD (varE 1) (conE (.int 2))))) (skipS))
def l_walk_l1 : DenS :=
  forS (itE (varE 2)) (nmT 5) (l_walk_b1) [5]
def b_l_walk : DenS :=
  seqS (parS2 3 4 (consL (newE (consL (conE (.int 0)) (consL (conE (.int 0)) (nilL)))) (consL (tupE (nilL)) (nilL)))) (seqS (l_walk_l1) (retS (tupE (consL (varE 1) (consL (varE 4) (consL (opL tupleO (consL (varE 3) (nilL))) (nilL)))))))
def f_l_walk : Fn := defG 6 3 b_l_walk
def l_may_play_c1 : Den :=
  compE (itE (op2 ixD (varE 0) (op2 modD (op2 addD (varE 4) (opL lenO (consL (varE 5) (nilL)))) (conE (.int 4))))) (nmT 9) (tru (op2 ninD (varE 9) (varE 3))) (varE 9) [9]
def l_may_play_c2 : Den :=
  compE (itE (varE 7)) (nmT 9) (andB (tru (varE 5)) (tru (op2 eqD (op2 ixD (varE 9) (conE (.int 0))) (op2 ixD (op2 ixD (varE 5) (conE (.int 0))) (conE (.int 0)))))) (varE 9) [9]
def b_l_may_play : DenS :=
  seqS (tgtS (tupT (consT (nmT 4) (consT (nmT 5) (consT (nmT 6) (nilT))))) (callE 3 f_l_walk (consL (varE 1) (consL (varE 2) (consL (varE 3) (nilL)))))) (seqS (asgS 7 (l_may_play_c1)) (seqS (asgS 8 (l_may_play_c2)) (retS (opL tupleO (consL (orE (varE 8) (varE 7)) (nilL))))))
def f_l_may_play : Fn := defG 10 4 b_l_may_play
def l_drawn_cards_b1 : DenS :=
  asgS 6 (op2 addD (varE 6) (tupE (consL (callE 3 f_l_pick (consL (varE 0) (consL (varE 1) (consL (callE 4 f_l_may_play (consL (varE 2) (consL (varE 3) (consL (varE 4) (consL (varE 6) (nilL)))))) (nilL))))) (nilL))))
def l_drawn_cards_l1 : DenS :=
  forS (rng1E (opL minO (consL (varE 5) (consL (op2 mulD (conE (.int 4)) (opL lenO (consL (op2 ixD (varE 2) (conE (.int 0))) (nilL)))) (nilL))))) (nmT 7) (l_drawn_cards_b1) [7]
def b_l_drawn_cards : DenS :=
  seqS (asgS 6 (tupE (nilL))) (seqS (l_drawn_cards_l1) (retS (varE 6)))
def f_l_drawn_cards : Fn := defG 8 6 b_l_drawn_cards

/-! ### the best card, by hand -/
theorem dataLt_cD (a b : Card) : dataLt (toPy (cD a)) (toPy (cD b)) = !cle b a := by
  rw [← le_cD]
  show _ = !(!PyProof.Rows.lexLt itemOrd (PySem.W.keyToks (toPy (cD a))) (PySem.W.keyToks (toPy (cD b))))
  rw [Bool.not_not]
  rfl
def maxC (x : Card) (l : List Card) : Card := l.foldl (fun a y => if cle y a = true then a else y) x
theorem maxL_cD : ∀ (l : List Card) (x : Card), maxL (cD x) (l.map cD) = cD (maxC x l)
  | [], x => rfl
  | y :: l, x => by
    have ih := fun z => maxL_cD l z
    unfold maxL maxC at ih ⊢
    rw [List.map_cons, List.foldl_cons, List.foldl_cons, dataLt_cD]
    cases h : cle y x with
    | true => simpa [h] using ih x
    | false => simpa [h] using ih y
theorem maxC_spec : ∀ (l : List Card) (x : Card), maxC x l ∈ x :: l ∧ ∀ y ∈ x :: l, cle y (maxC x l) = true
  | [], x => ⟨by simp [maxC], fun y hy => by
    cases List.mem_singleton.mp hy
    have := cle_total x x
    simpa [maxC] using this⟩
  | z :: l, x => by
    have e : maxC x (z :: l) = maxC (if cle z x = true then x else z) l := rfl
    rw [e]
    cases h : cle z x with
    | true =>
      obtain ⟨h1, h2⟩ := maxC_spec l x
      rw [if_pos rfl]
      refine ⟨?_, fun y hy => ?_⟩
      · rcases List.mem_cons.mp h1 with h1 | h1
        · rw [h1]; simp
        · simp [h1]
      · rcases List.mem_cons.mp hy with rfl | hy
        · exact h2 _ (by simp)
        · rcases List.mem_cons.mp hy with rfl | hy
          · exact cle_trans _ _ _ h (h2 x (by simp))
          · exact h2 y (by simp [hy])
    | false =>
      obtain ⟨h1, h2⟩ := maxC_spec l z
      rw [if_neg (by decide)]
      have hxz : cle x z = true := by
        have := cle_total z x
        rw [h] at this
        simpa using this
      refine ⟨by simpa using Or.inr (List.mem_cons.mp h1), fun y hy => ?_⟩
      rcases List.mem_cons.mp hy with rfl | hy
      · exact cle_trans _ _ _ hxz (h2 z (by simp))
      · exact h2 y hy
theorem max_cards {x : Card} {l : List Card} {st : Store} : maxAO [.lst ((x :: l).map cD)] st = some (cD (maxC x l)) := by
  show (if sortOk (cD x :: l.map cD) then some (maxL (cD x) (l.map cD)) else none) = _
  rw [show cD x :: l.map cD = (x :: l).map cD from rfl, if_pos (sortOk_cD _), maxL_cD]
theorem find_nd {A : Type} [DecidableEq A] {b : A} : ∀ {l : List A} {k : Nat}, l.Nodup → l[k]? = some b → l.findIdx? (fun x => decide (x = b)) = some k
  | [], k, _, h => by simp at h
  | x :: l, 0, _, h => by
    cases (show some x = some b from by simpa using h)
    simp [List.findIdx?_cons]
  | x :: l, k + 1, hn, h => by
    have hn := List.nodup_cons.mp hn
    have h : l[k]? = some b := by simpa using h
    have hx : x ≠ b := fun e => hn.1 (e ▸ List.mem_of_getElem? h)
    rw [List.findIdx?_cons, find_nd hn.2 h]
    simp [hx]
theorem index_hand {cs : List Card} {b : Card} {k : Nat} {st : Store} (hn : cs.Nodup) (hk : cs[k]? = some b) : mcR indexO (handD cs) [cD b] st = some (.int (k : Nat)) := by
  show indexO (cs.map cD) [cD b] = _
  show (if (fits (cD b) 60 && fitsL (cs.map cD) 60) = true then _ else none) = _
  rw [fit_cD, fitL_cD]
  show ((cs.map cD).findIdx? fun y => D.eqv y (cD b)).map (fun (j : Nat) => D.int j) = _
  have : ((cs.map cD).findIdx? fun y => D.eqv y (cD b)) = cs.findIdx? fun x => decide (x = b) := by
    rw [List.findIdx?_map]
    congr 1
    funext x
    exact eqv_cD
  rw [this, find_nd hn hk]
  rfl
theorem in_ints {i : Int} {xs : List Int} {st : Store} : inD (.int i) (.lst (xs.map D.int)) st = some (.bl (decide (i ∈ xs))) := by
  show (if (fits (D.int i) 60 && fitsL (xs.map D.int) 60) = true then some (D.bl (inL (D.int i) (xs.map D.int))) else none) = _
  rw [fit_ints]
  show some (D.bl (inL (D.int i) (xs.map D.int))) = _
  congr 2
  unfold inL
  clear st
  induction xs with
  | nil => rfl
  | cons x xs ih =>
    rw [List.map_cons, List.any_cons, ih, eqv_ints]
    by_cases h1 : x = i
    · simp [h1]
    · have : ¬ i = x := fun z => h1 z.symm
      by_cases h2 : i ∈ xs <;> simp [h1, h2, this]
theorem trick_won_ok {s l : Int} {tr : List Card} (st : Store) (h : tr.length = 4) (hn : tr.Nodup) : f_l_trick_won_k13 [.int s, .int l, handD tr] st = .ok (.int (winP s l tr)) st := by
  obtain ⟨t0, ts, rfl⟩ : ∃ t ts, tr = t :: ts := by
    cases tr with
    | nil => cases h
    | cons t ts => exact ⟨t, ts, rfl⟩
  obtain ⟨b, hb, hB1, hB2⟩ := best_is (s := s) (t0 := t0) (ts := ts) 3 (by omega)
  have hin := List.mem_of_getElem? hb
  have all : ∀ c ∈ t0 :: ts, (c.1 = b.1 → c.2 ≤ b.2) ∧ (c.1 = s → b.1 = s) := fun c hc => by
    obtain ⟨j, hj⟩ := List.mem_iff_getElem?.mp hc
    have := (List.getElem?_eq_some_iff.mp hj).1
    exact hB2 j c (by omega) hj
  have hc1 : ∀ x3 x4 x5, l_trick_won_k13_c1 [some (.int s), some (.int l), some (handD (t0 :: ts)), x3, x4, x5] st = .ok (.lst (((t0 :: ts).map Prod.fst).map D.int)) st := fun x3 x4 x5 => by
    have := cMap (f := itE (varE 2)) (tg := nmT 5) (elt := op2 ixD (varE 5) (conE (.int 0))) (own := [5]) (ρ := [some (.int s), some (.int l), some (handD (t0 :: ts)), x3, x4, x5]) (st := st) (enc := cD) (l := t0 :: ts) (fun c => .int c.1) rfl (fun c _ s1 => ⟨_, rfl, by simp (disch := first | assumption | omega | (simp only [List.length_cons, List.length_append, List.length_map, List.length_nil, List.length_set, List.length_replicate, rep_length, Nat.zero_add, Nat.mul_one]; omega) | (refine mul_ok ?_ ?_ <;> omega) | (refine cdiv_ok ?_ ?_ <;> omega) | (simp; done) | fail)⟩) (fun _ _ => rfl) (by omega)
    rw [List.map_map]
    exact this
  have hsu : (if s ∈ (t0 :: ts).map Prod.fst then s else t0.1) = b.1 := by
    by_cases hs : s ∈ (t0 :: ts).map Prod.fst
    · rw [if_pos hs]
      obtain ⟨c, hc, e⟩ := List.mem_map.mp hs
      exact ((all c hc).2 e).symm
    · rw [if_neg hs]
      rcases hB1 with h | h
      · exact h.symm
      · exact absurd (List.mem_map.mpr ⟨b, hin, h⟩) hs
  have hc2 : ∀ x4 x5, l_trick_won_k13_c2 [some (.int s), some (.int l), some (handD (t0 :: ts)), some (.int b.1), x4, x5] st = .ok (.lst (((t0 :: ts).filter fun c => decide (c.1 = b.1)).map cD)) st := fun x4 x5 =>
    cIf (f := itE (varE 2)) (tg := nmT 5) (tt := tru (op2 eqD (op2 ixD (varE 5) (conE (.int 0))) (varE 3))) (elt := varE 5) (own := [5]) (ρ := [some (.int s), some (.int l), some (handD (t0 :: ts)), some (.int b.1), x4, x5]) (st := st) (enc := cD) (l := t0 :: ts) (fun c => decide (c.1 = b.1)) cD rfl (fun c _ s1 => ⟨_, rfl, by simp (disch := first | assumption | omega | (simp only [List.length_cons, List.length_append, List.length_map, List.length_nil, List.length_set, List.length_replicate, rep_length, Nat.zero_add, Nat.mul_one]; omega) | (refine mul_ok ?_ ?_ <;> omega) | (refine cdiv_ok ?_ ?_ <;> omega) | (simp; done) | fail), fun _ => by simp (disch := first | assumption | omega | (simp only [List.length_cons, List.length_append, List.length_map, List.length_nil, List.length_set, List.length_replicate, rep_length, Nat.zero_add, Nat.mul_one]; omega) | (refine mul_ok ?_ ?_ <;> omega) | (refine cdiv_ok ?_ ?_ <;> omega) | (simp; done) | fail)⟩) (fun _ _ => rfl) (by omega)
  have hbf : b ∈ (t0 :: ts).filter fun c => decide (c.1 = b.1) := List.mem_filter.mpr ⟨hin, by simp⟩
  obtain ⟨x, xs, hf⟩ : ∃ x xs, ((t0 :: ts).filter fun c => decide (c.1 = b.1)) = x :: xs := by
    cases hf : ((t0 :: ts).filter fun c => decide (c.1 = b.1)) with
    | nil => rw [hf] at hbf; cases hbf
    | cons x xs => exact ⟨x, xs, rfl⟩
  obtain ⟨m1, m2⟩ := maxC_spec xs x
  rw [← hf] at m1 m2
  have hm : maxC x xs = b := by
    refine cle_anti ?_ (m2 b hbf)
    obtain ⟨m3, m4⟩ := List.mem_filter.mp m1
    have m4 := of_decide_eq_true m4
    have := (all _ m3).1 m4
    unfold cle
    simp [m4, this]
  have hmx : ∀ q, maxAO [.lst (((t0 :: ts).filter fun c => decide (c.1 = b.1)).map cD)] q = some (cD b) := fun q => by rw [hf, max_cards, hm]
  have hix : ∀ q, mcR indexO (handD (t0 :: ts)) [cD b] q = some (.int (bestN s (t0 :: ts) 3 : Nat)) := fun q => index_hand hn hb
  have hx0 : ∀ q, ixD (handD (t0 :: ts)) (.int 0) q = some (cD t0) := fun q => ix_hand (by omega) rfl
  have hin2 : ∀ q, inD (.int s) (.lst (((t0 :: ts).map Prod.fst).map D.int)) q = some (.bl (decide (s ∈ (t0 :: ts).map Prod.fst))) := fun q => in_ints
  have hv : ∀ q, view q (handD (t0 :: ts)) = some ((t0 :: ts).map cD) := fun q => rfl
  unfold winP
  generalize bestN s (t0 :: ts) 3 = k at *
  by_cases hs : s ∈ (t0 :: ts).map Prod.fst
  · rw [if_pos hs] at hsu
    rw [decide_eq_true hs] at hin2
    generalize ((t0 :: ts).map Prod.fst).map D.int = zs at *
    generalize ((t0 :: ts).filter fun c => decide (c.1 = b.1)).map cD = ys at *
    generalize (t0 :: ts).map cD = vs at hv
    generalize handD (t0 :: ts) = hh at *
    rw [← hsu] at hc2
    simp (disch := first | assumption | omega | (simp only [List.length_cons, List.length_append, List.length_map, List.length_nil, List.length_set, List.length_replicate, rep_length, Nat.zero_add, Nat.mul_one]; omega) | (refine mul_ok ?_ ?_ <;> omega) | (refine cdiv_ok ?_ ?_ <;> omega) | (simp; done) | fail) [f_l_trick_won_k13, b_l_trick_won_k13, hc1, hin2, hc2, hmx, hix, hv]
  · rw [if_neg hs] at hsu
    rw [decide_eq_false hs] at hin2
    generalize ((t0 :: ts).map Prod.fst).map D.int = zs at *
    generalize ((t0 :: ts).filter fun c => decide (c.1 = b.1)).map cD = ys at *
    generalize (t0 :: ts).map cD = vs at hv
    generalize handD (t0 :: ts) = hh at *
    rw [← hsu] at hc2
    simp (disch := first | assumption | omega | (simp only [List.length_cons, List.length_append, List.length_map, List.length_nil, List.length_set, List.length_replicate, rep_length, Nat.zero_add, Nat.mul_one]; omega) | (refine mul_ok ?_ ?_ <;> omega) | (refine cdiv_ok ?_ ?_ <;> omega) | (simp; done) | fail) [f_l_trick_won_k13, b_l_trick_won_k13, hc1, hin2, hc2, hmx, hix, hv, hx0]
/-! ### a walk, by hand -/
theorem wonD_at {w : Nat × Nat} : wonD w = .tup [.int (w.1 : Nat), .int (w.2 : Nat)] := rfl
theorem cur_sub {cs : List Card} {c : Card} (h : c ∈ curP cs) : c ∈ cs := List.mem_of_mem_drop h
theorem cur_nd {cs : List Card} (h : cs.Nodup) : (curP cs).Nodup := h.sublist (List.drop_sublist _ _)
theorem lwalk_ok {s l : Int} {cs : List Card} (st : Store) (hn : cs.Nodup) (hl : cs.length ≤ 1000) : f_l_walk [.int s, .int l, handD cs] st = .ok (.tup [.int (leadP s l cs), handD (curP cs), wonD (wonP s l cs)]) st := by
  have el : l_walk_l1 [some (.int s), some (.int l), some (handD cs), some (.ref st.length), some (.tup []), none] (st ++ [.lst [.int 0, .int 0]]) = .next [some (.int s), some (.int (leadP s l cs)), some (handD cs), some (.ref st.length), some (handD (curP cs)), none] (st ++ [.lst [.int ((wonP s l cs).1 : Nat), .int ((wonP s l cs).2 : Nat)]]) := by
    obtain ⟨ρ', s', ⟨rfl, rfl⟩, e⟩ := fAll (f := itE (varE 2)) (tg := nmT 5) (body := l_walk_b1) (ks := [5]) (ρ := [some (.int s), some (.int l), some (handD cs), some (.ref st.length), some (.tup []), none]) (st := st ++ [.lst [.int 0, .int 0]]) (s0 := st ++ [.lst [.int 0, .int 0]]) (enc := cD) (l := cs)
      (fun i ρ q => ρ = [some (.int s), some (.int (leadP s l (cs.take i))), some (handD cs), some (.ref st.length), some (handD (curP (cs.take i))), none] ∧ q = st ++ [.lst [.int ((wonP s l (cs.take i)).1 : Nat), .int ((wonP s l (cs.take i)).2 : Nat)]]) (by simp (disch := first | assumption | omega | (simp only [List.length_cons, List.length_append, List.length_map, List.length_nil, List.length_set, List.length_replicate, rep_length, Nat.zero_add, Nat.mul_one]; omega) | (refine mul_ok ?_ ?_ <;> omega) | (refine cdiv_ok ?_ ?_ <;> omega) | (simp; done) | fail)) ⟨by simp [wonP, leadP, curP, wk, handD], by simp [wonP, leadP, curP, wk]⟩ (fun i c ρ q hx ⟨e1, e2⟩ => by
        subst e1 e2
        have hi := (List.getElem?_eq_some_iff.mp hx).1
        have ht := take_snocA hx
        rw [ht]
        have hps : (cs.take i ++ [c]).Nodup := by rw [← ht]; exact hn.sublist (List.take_sublist _ _)
        have hpl : (cs.take i).length = i := by rw [List.length_take]; omega
        generalize cs.take i = ps at *
        have hcl := cur_len (cs := ps)
        have ha : ∀ q, addD (handD (curP ps)) (.tup [cD c]) q = some (handD (curP ps ++ [c])) := fun q => add_card (by omega)
        have hle : ∀ q, lenO [handD (curP ps ++ [c])] q = some (.int ((ps.length % 4 : Nat) + 1)) := fun q => by rw [len_hand, List.length_append, hcl]; rfl
        refine ⟨_, _, ⟨rfl, rfl⟩, fun k => ?_⟩
        by_cases h3 : ps.length % 4 = 3
        · obtain ⟨e1, e2, e3⟩ := snoc_end (s := s) (l := l) (c := c) h3
          have hcn : (curP ps ++ [c]).Nodup := by
            have hps2 := List.nodup_append.mp hps
            exact List.nodup_append.mpr ⟨cur_nd hps2.1, by simp, fun a ha b hb => hps2.2.2 a (cur_sub ha) b hb⟩
          have hw := fun q => trick_won_ok (s := s) (l := leadP s l ps) q (tr := curP ps ++ [c]) (by rw [List.length_append, hcl, h3]; rfl) hcn
          rw [← e1] at hw
          obtain ⟨w0, w1⟩ : 0 ≤ leadP s l (ps ++ [c]) ∧ leadP s l (ps ++ [c]) < 4 := by rw [e1]; exact win_range
          rw [e2, e3]
          generalize leadP s l (ps ++ [c]) = w at *
          generalize leadP s l ps = ll at *
          obtain ⟨a, b⟩ := wonP s l ps
          have h4 : ((ps.length : Int) % 4 + 1 = 4) := by omega
          have hnil : handD [] = .tup [] := rfl
          generalize handD (curP ps ++ [c]) = tr at *
          rcases (show w % 2 = 0 ∨ w % 2 = 1 by omega) with h | h <;> simp (disch := first | assumption | omega | (simp only [List.length_cons, List.length_append, List.length_map, List.length_nil, List.length_set, List.length_replicate, rep_length, Nat.zero_add, Nat.mul_one]; omega) | (refine mul_ok ?_ ?_ <;> omega) | (refine cdiv_ok ?_ ?_ <;> omega) | (simp; done) | fail) [l_walk_b1, ha, hle, h4, hw, h, hnil, -len_hand]
        · obtain ⟨e1, e2, e3⟩ := snoc_in (s := s) (l := l) (c := c) h3
          rw [e1, e2, e3]
          have h4 : ¬ ((ps.length : Int) % 4 + 1 = 4) := by omega
          generalize handD (curP ps ++ [c]) = tr at *
          simp (disch := first | assumption | omega | (simp only [List.length_cons, List.length_append, List.length_map, List.length_nil, List.length_set, List.length_replicate, rep_length, Nat.zero_add, Nat.mul_one]; omega) | (refine mul_ok ?_ ?_ <;> omega) | (refine cdiv_ok ?_ ?_ <;> omega) | (simp; done) | fail) [l_walk_b1, ha, hle, h4, -len_hand])
    rw [List.take_length] at e
    exact e
  have ht : ∀ a b : D, tupleO [.ref st.length] (st ++ [.lst [a, b]]) = some (.tup [a, b]) := fun a b => by
    show (view (st ++ [.lst [a, b]]) (.ref st.length)).map D.tup = _
    unfold view
    simp
  generalize hc : handD (curP cs) = cc at *
  have hlo : lo st.length cc = true := by rw [← hc]; exact lo_hand
  simp (disch := first | assumption | omega | (simp only [List.length_cons, List.length_append, List.length_map, List.length_nil, List.length_set, List.length_replicate, rep_length, Nat.zero_add, Nat.mul_one]; omega) | (refine mul_ok ?_ ?_ <;> omega) | (refine cdiv_ok ?_ ?_ <;> omega) | (simp; done) | fail) [f_l_walk, b_l_walk, el, ht]
  rw [wonD_at]
  exact leave_app (by simp [hlo])
/-! ### what may be played, by hand -/
theorem lmay_play_ok {r : Nat} {d : List (List Card)} {s l : Int} {cs : List Card} (st : Store) (hD : Deal r d) (hr : r ≤ 200) (hn : cs.Nodup) (hl : cs.length ≤ 1000) (hne : cs.length ≠ 4 * r) : f_l_may_play [dealD d, .int s, .int l, handD cs] st = .ok (handD (mayP r d s l cs)) st := by
  have hw := lwalk_ok (s := s) (l := l) (cs := cs) st hn hl
  have ht : turnP r s l cs = some ((leadP s l cs + (cs.length % 4 : Nat)) % 4) := if_neg hne
  unfold mayP
  rw [ht]
  have hp := turn_range ht
  obtain ⟨hd, e1, e2⟩ := left_get (cs := cs) hD.four hp
  dsimp only
  rw [e2]
  have hdl := hD.each hd (List.mem_of_getElem? e1)
  have hix : ∀ q, ixD (dealD d) (.int ((leadP s l cs + (cs.length % 4 : Nat)) % 4)) q = some (handD hd) := fun q => ix_deal hp.1 e1
  have hcl := cur_len (cs := cs)
  have hle : ∀ q, lenO [handD (curP cs)] q = some (.int ((cs.length % 4 : Nat) : Int)) := fun q => by rw [len_hand, hcl]
  have hll : (hd.filter fun c => !decide (c ∈ cs)).length ≤ 200 := by
    have := List.length_filter_le (fun c => !decide (c ∈ cs)) hd
    omega
  dsimp only [Option.getD_some]
  generalize hu : wonD (wonP s l cs) = u at *
  generalize leadP s l cs = ld at *
  generalize ((cs.length % 4 : Nat) : Int) = m at *
  have hc1 : ∀ x7 x8 x9, l_may_play_c1 [some (dealD d), some (.int s), some (.int l), some (handD cs), some (.int ld), some (handD (curP cs)), some u, x7, x8, x9] st = .ok (.lst ((hd.filter fun c => !decide (c ∈ cs)).map cD)) st := fun x7 x8 x9 =>
    cIf (enc := cD) (l := hd) (fun c => !decide (c ∈ cs)) cD (by simp (disch := first | assumption | omega | (simp only [List.length_cons, List.length_append, List.length_map, List.length_nil, List.length_set, List.length_replicate, rep_length, Nat.zero_add, Nat.mul_one]; omega) | (refine mul_ok ?_ ?_ <;> omega) | (refine cdiv_ok ?_ ?_ <;> omega) | (simp; done) | fail) [hle, hix, -len_hand]) (fun c hc s1 => ⟨_, rfl, by simp (disch := first | assumption | omega | (simp only [List.length_cons, List.length_append, List.length_map, List.length_nil, List.length_set, List.length_replicate, rep_length, Nat.zero_add, Nat.mul_one]; omega) | (refine mul_ok ?_ ?_ <;> omega) | (refine cdiv_ok ?_ ?_ <;> omega) | (simp; done) | fail) [nin_cards], fun _ => by simp (disch := first | assumption | omega | (simp only [List.length_cons, List.length_append, List.length_map, List.length_nil, List.length_set, List.length_replicate, rep_length, Nat.zero_add, Nat.mul_one]; omega) | (refine mul_ok ?_ ?_ <;> omega) | (refine cdiv_ok ?_ ?_ <;> omega) | (simp; done) | fail)⟩) (fun _ _ => rfl) (by omega)
  generalize (hd.filter fun c => !decide (c ∈ cs)) = hf at *
  generalize curP cs = cur at *
  have hc2 : ∀ x8 x9, l_may_play_c2 [some (dealD d), some (.int s), some (.int l), some (handD cs), some (.int ld), some (handD cur), some u, some (.lst (hf.map cD)), x8, x9] st = .ok (.lst ((hf.filter (follow cur)).map cD)) st := fun x8 x9 => by
    refine cIf (enc := cD) (l := hf) (follow cur) cD rfl (fun c hc s1 => ⟨_, rfl, ?_, fun _ => by simp (disch := first | assumption | omega | (simp only [List.length_cons, List.length_append, List.length_map, List.length_nil, List.length_set, List.length_replicate, rep_length, Nat.zero_add, Nat.mul_one]; omega) | (refine mul_ok ?_ ?_ <;> omega) | (refine cdiv_ok ?_ ?_ <;> omega) | (simp; done) | fail)⟩) (fun _ _ => rfl) (by omega)
    cases cur with
    | nil => simp (disch := first | assumption | omega | (simp only [List.length_cons, List.length_append, List.length_map, List.length_nil, List.length_set, List.length_replicate, rep_length, Nat.zero_add, Nat.mul_one]; omega) | (refine mul_ok ?_ ?_ <;> omega) | (refine cdiv_ok ?_ ?_ <;> omega) | (simp; done) | fail) [follow]
    | cons t ts =>
      have hx : ∀ q, ixD (handD (t :: ts)) (.int 0) q = some (cD t) := fun q => ix_hand (by omega) rfl
      simp (disch := first | assumption | omega | (simp only [List.length_cons, List.length_append, List.length_map, List.length_nil, List.length_set, List.length_replicate, rep_length, Nat.zero_add, Nat.mul_one]; omega) | (refine mul_ok ?_ ?_ <;> omega) | (refine cdiv_ok ?_ ?_ <;> omega) | (simp; done) | fail) [hx, follow]
  by_cases hne : (hf.filter (follow cur)).isEmpty = true
  · rw [if_pos hne]
    rw [List.isEmpty_iff.mp hne] at hc2
    simp (disch := first | assumption | omega | (simp only [List.length_cons, List.length_append, List.length_map, List.length_nil, List.length_set, List.length_replicate, rep_length, Nat.zero_add, Nat.mul_one]; omega) | (refine mul_ok ?_ ?_ <;> omega) | (refine cdiv_ok ?_ ?_ <;> omega) | (simp; done) | fail) [f_l_may_play, b_l_may_play, hw, hc1, hc2, tuple_hand]
    exact leave_ret lo_hand
  · rw [if_neg hne]
    generalize hf.filter (follow cur) = gg at *
    have hne : gg.isEmpty = false := by simpa using hne
    simp (disch := first | assumption | omega | (simp only [List.length_cons, List.length_append, List.length_map, List.length_nil, List.length_set, List.length_replicate, rep_length, Nat.zero_add, Nat.mul_one]; omega) | (refine mul_ok ?_ ?_ <;> omega) | (refine cdiv_ok ?_ ?_ <;> omega) | (simp; done) | fail) [f_l_may_play, b_l_may_play, hw, hc1, hc2, tuple_hand, hne, -tuple_lst]
/-! ### cards drawn -/
theorem pick_cards {ns : List Int} {n : Nat} {c : Cell} {r : Store} {cs : List Card} (hns : ns.length ≤ 63) (h : Tn n c) (hn : n ≤ 1000000) (hx : cs ≠ []) :
    ∃ d c', d ∈ cs ∧ f_l_pick [.scr ns, .ref 0, handD cs] (c :: r) = .ok (cD d) (c' :: r) ∧ Tn (n + 1) c' := by
  have hlen : 0 < cs.length := List.length_pos_iff.mpr hx
  obtain ⟨i, c', e, h0, h1, h2⟩ := draw_ok (r := r) (m := (cs.length : Int)) hns h hn (by omega)
  have hl : i.toNat < cs.length := by omega
  have hat : ∀ q, ixD (handD cs) (.int i) q = some (cD cs[i.toNat]) := fun q => ix_hand h0 (List.getElem?_eq_getElem hl)
  refine ⟨cs[i.toNat], c', List.getElem_mem hl, ?_, h2⟩
  have hlo : ∀ n, lo n (cD cs[i.toNat]) = true := fun n => rfl
  generalize cs[i.toNat] = x at *
  simp (disch := first | assumption | omega | (simp only [List.length_cons, List.length_append, List.length_map, List.length_nil, List.length_set, List.length_replicate, rep_length, Nat.zero_add, Nat.mul_one]; omega) | (refine mul_ok ?_ ?_ <;> omega) | (refine cdiv_ok ?_ ?_ <;> omega) | (simp; done) | fail) [f_l_pick, b_l_pick, e, hat, hlo]
  exact leave_head1 rfl h2.lo
theorem drawn_cards_ok {ns : List Int} {n0 : Nat} {c : Cell} {q : Store} {r : Nat} {d : List (List Card)} {s l m : Int} (hns : ns.length ≤ 63) (ht : Tn n0 c) (hn0 : n0 ≤ 500000) (hD : Deal r d) (hr : r ≤ 100) (hl : 0 ≤ l ∧ l < 4) (hm : -1000 ≤ m ∧ m ≤ 1000) :
    ∃ cs c', Play r d s l cs ∧ cs.length = min m.toNat (4 * r) ∧ f_l_drawn_cards [.scr ns, .ref 0, dealD d, .int s, .int l, .int m] (c :: q) = .ok (handD cs) (c' :: q) ∧ Tn (n0 + 4 * r) c' := by
  obtain ⟨h0, e0, l0⟩ := hD.at0
  have hi : ∀ q, ixD (dealD d) (.int 0) q = some (handD h0) := fun q => ix_deal (by omega) e0
  have hm4 : ∀ q, mulD (.int 4) (.int (r : Int)) q = some (.int (4 * (r : Int))) := fun q => mul_int (mul_ok (by omega) (by omega))
  have hlr : ∀ q, lenO [handD h0] q = some (.int (r : Int)) := fun q => by rw [len_hand, l0]
  obtain ⟨k, hk⟩ : ∃ k : Int, k = (if 4 * (r : Int) < m then 4 * (r : Int) else m) := ⟨_, rfl⟩
  have hkn : k.toNat = min m.toNat (4 * r) := by rw [hk]; split <;> omega
  have hkb : -1000 ≤ k ∧ k ≤ 1000 := by rw [hk]; split <;> omega
  obtain ⟨ρ', s', ⟨cs, c', rfl, rfl, hP, hlen, ht'⟩, e⟩ := fAll (f := rng1E (opL minO (consL (varE 5) (consL (op2 mulD (conE (.int 4)) (opL lenO (consL (op2 ixD (varE 2) (conE (.int 0))) (nilL)))) (nilL))))) (tg := nmT 7) (body := l_drawn_cards_b1) (ks := [7]) (ρ := [some (.scr ns), some (.ref 0), some (dealD d), some (.int s), some (.int l), some (.int m), some (.tup []), none]) (st := c :: q) (s0 := c :: q) (enc := rgE 0) (l := List.range k.toNat)
    (fun i ρ st => ∃ cs c', ρ = [some (.scr ns), some (.ref 0), some (dealD d), some (.int s), some (.int l), some (.int m), some (handD cs), none] ∧ st = c' :: q ∧ Play r d s l cs ∧ cs.length = i ∧ Tn (n0 + i) c') (by
      simp (disch := first | assumption | omega | (simp only [List.length_cons, List.length_append, List.length_map, List.length_nil, List.length_set, List.length_replicate, rep_length, Nat.zero_add, Nat.mul_one]; omega) | (refine mul_ok ?_ ?_ <;> omega) | (refine cdiv_ok ?_ ?_ <;> omega) | (simp; done) | fail) [hi, hlr, hm4, ← hk, -len_hand]
      rw [range_is]) ⟨[], c, rfl, rfl, .nil, rfl, ht⟩ (fun i x ρ st hx ⟨cs, c1, e1, e2, hP, hlen, t1⟩ => by
      obtain ⟨rfl, hxi⟩ := range_get hx
      subst e1 e2
      have I := hP.inv hD hl
      have hne : cs.length ≠ 4 * r := by omega
      have hnd : cs.Nodup := I.nd
      have f1 := lmay_play_ok (s := s) (l := l) (c1 :: q) hD (by omega) hnd (by omega) hne
      obtain ⟨x1, c2, hx1, ex, t2⟩ := pick_cards (r := q) hns t1 (by omega) (I.may hl hne)
      have ha : ∀ q, addD (handD cs) (.tup [cD x1]) q = some (handD (cs ++ [x1])) := fun q => add_card (by omega)
      exact ⟨_, _, ⟨cs ++ [x1], c2, rfl, rfl, hP.snoc hx1, by simp [hlen], t2.mono (by omega)⟩, fun k => by simp (disch := first | assumption | omega | (simp only [List.length_cons, List.length_append, List.length_map, List.length_nil, List.length_set, List.length_replicate, rep_length, Nat.zero_add, Nat.mul_one]; omega) | (refine mul_ok ?_ ?_ <;> omega) | (refine cdiv_ok ?_ ?_ <;> omega) | (simp; done) | fail) [l_drawn_cards_b1, f1, ex, ha]⟩)
  rw [List.length_range] at hlen ht'
  refine ⟨cs, c', hP, by rw [hlen, hkn], ?_, ht'.mono (by omega)⟩
  have e : l_drawn_cards_l1 _ _ = _ := e
  simp (disch := first | assumption | omega | (simp only [List.length_cons, List.length_append, List.length_map, List.length_nil, List.length_set, List.length_replicate, rep_length, Nat.zero_add, Nat.mul_one]; omega) | (refine mul_ok ?_ ?_ <;> omega) | (refine cdiv_ok ?_ ?_ <;> omega) | (simp; done) | fail) [f_l_drawn_cards, b_l_drawn_cards, e]
  exact leave_head1 lo_hand ht'.lo
end DL

namespace DL
open PySem PySem.Spec PyProof.Rows L2
/-! ### sums of what is odd and never falls -/
def Phi (φ : Int → Int) (xs : List Int) (s : Int) : Int := (xs.map fun o => φ (s - o)).sum
def PhiL (φ : Int → Int) (xs : List Int) : List Int := xs.map (Phi φ xs)
def Odd (φ : Int → Int) : Prop := ∀ d, φ (-d) = -φ d
def Mono (φ : Int → Int) : Prop := ∀ a b, a ≤ b → φ a ≤ φ b
theorem sum_add {A : Type} {f g : A → Int} : ∀ (l : List A), (l.map fun x => f x + g x).sum = (l.map f).sum + (l.map g).sum
  | [] => rfl
  | x :: l => by
    simp only [List.map_cons, List.sum_cons, sum_add l]
    omega
theorem sum_neg {A : Type} {f : A → Int} : ∀ (l : List A), (l.map fun x => -f x).sum = -(l.map f).sum
  | [] => rfl
  | x :: l => by
    simp only [List.map_cons, List.sum_cons, sum_neg l]
    omega
theorem sum_const {A : Type} {c : Int} : ∀ (l : List A), (l.map fun _ => c).sum = l.length * c
  | [] => by simp
  | x :: l => by
    simp only [List.map_cons, List.sum_cons, sum_const l, List.length_cons]
    rw [Int.natCast_add, Int.add_mul]
    omega
theorem sum_le {A : Type} {f g : A → Int} : ∀ (l : List A), (∀ x ∈ l, f x ≤ g x) → (l.map f).sum ≤ (l.map g).sum
  | [], _ => Int.le_refl _
  | x :: l, h => by
    simp only [List.map_cons, List.sum_cons]
    have := sum_le l fun y hy => h y (by simp [hy])
    have := h x (by simp)
    omega
theorem sum_lt {A : Type} {f g : A → Int} {a : A} : ∀ (l : List A), a ∈ l → (∀ x ∈ l, f x ≤ g x) → f a < g a → (l.map f).sum < (l.map g).sum
  | [], h, _, _ => by simp at h
  | x :: l, hm, h, ha => by
    simp only [List.map_cons, List.sum_cons]
    have h1 := sum_le l fun y hy => h y (by simp [hy])
    have h2 := h x (by simp)
    rcases List.mem_cons.mp hm with rfl | hm
    · omega
    · have := sum_lt l hm (fun y hy => h y (by simp [hy])) ha
      omega
/-- over all pairs -/
theorem sum_cross {f : Int → Int → Int} : ∀ (xs ys : List Int), (xs.map fun s => (ys.map fun o => f s o).sum).sum = (ys.map fun o => (xs.map fun s => f s o).sum).sum
  | [], ys => by
    have := sum_const (A := Int) (c := 0) ys
    simp only [List.map_nil, List.sum_nil]
    rw [this]
    omega
  | x :: xs, ys => by
    simp only [List.map_cons, List.sum_cons]
    rw [sum_cross xs ys, ← sum_add]
theorem sum_odd {φ : Int → Int} (h : Odd φ) (xs : List Int) : (PhiL φ xs).sum = 0 := by
  have e1 : (PhiL φ xs).sum = (xs.map fun s => (xs.map fun o => φ (s - o)).sum).sum := rfl
  have e2 := sum_cross (f := fun s o => φ (s - o)) xs xs
  have e3 : (xs.map fun o => (xs.map fun s => φ (s - o)).sum) = xs.map fun o => -(xs.map fun s => φ (o - s)).sum := List.map_congr_left fun o _ => by
    rw [← sum_neg]
    congr 1
    refine List.map_congr_left fun s _ => ?_
    rw [← h, show -(o - s) = s - o by omega]
  rw [e3, sum_neg] at e2
  rw [e1]
  omega
theorem phi_neg {φ : Int → Int} (h : Odd φ) (xs : List Int) (s : Int) : Phi φ (xs.map fun o => 0 - o) (0 - s) = -Phi φ xs s := by
  unfold Phi
  rw [List.map_map, ← sum_neg]
  congr 1
  refine List.map_congr_left fun o _ => ?_
  show φ (0 - s - (0 - o)) = -φ (s - o)
  rw [← h]
  congr 1
  omega
theorem phi_shift {φ : Int → Int} (c : Int) (xs : List Int) (s : Int) : Phi φ (xs.map fun o => o + c) (s + c) = Phi φ xs s := by
  unfold Phi
  rw [List.map_map]
  congr 1
  refine List.map_congr_left fun o _ => ?_
  show φ (s + c - (o + c)) = φ (s - o)
  congr 1
  omega
theorem phi_perm {φ : Int → Int} {xs ys : List Int} (h : xs.Perm ys) (s : Int) : Phi φ xs s = Phi φ ys s := perm_sum (h.map _)
theorem phi_mono {φ : Int → Int} (h : Mono φ) (xs : List Int) {s t : Int} (l : t ≤ s) : Phi φ xs t ≤ Phi φ xs s := sum_le xs fun o _ => h _ _ (by omega)
def sg (d : Int) : Int := if 0 < d then 1 else if d = 0 then 0 else -1
theorem sg_odd : Odd sg := fun d => by
  unfold sg
  split <;> split <;> (try split) <;> (try split) <;> omega
theorem sg_mono : Mono sg := fun a b h => by
  unfold sg
  split <;> split <;> (try split) <;> (try split) <;> omega
theorem sg_le (d : Int) : sg d ≤ 1 := by unfold sg; split <;> (try split) <;> omega
theorem sg_ge (d : Int) : -1 ≤ sg d := by unfold sg; split <;> (try split) <;> omega
theorem sg_strict (xs : List Int) {s t : Int} (hs : s ∈ xs) (l : t < s) : Phi sg xs t < Phi sg xs s :=
  sum_lt (a := s) xs hs (fun o _ => sg_mono _ _ (by omega)) (by unfold sg; split <;> split <;> (try split) <;> (try split) <;> omega)
theorem sg_top (xs : List Int) {s : Int} (hs : s ∈ xs) : Phi sg xs s ≤ xs.length - 1 := by
  have := sum_lt (f := fun o => sg (s - o)) (g := fun _ => 1) (a := s) xs hs (fun o _ => sg_le _) (by rw [Int.sub_self]; decide)
  rw [sum_const] at this
  show (xs.map fun o => sg (s - o)).sum ≤ _
  omega
theorem sg_bot (xs : List Int) {s : Int} (hs : s ∈ xs) : 1 - xs.length ≤ Phi sg xs s := by
  have := sum_lt (f := fun _ => -1) (g := fun o => sg (s - o)) (a := s) xs hs (fun o _ => sg_ge _) (by rw [Int.sub_self]; decide)
  rw [sum_const] at this
  show _ ≤ (xs.map fun o => sg (s - o)).sum
  omega
/-- two for each less, one for each like, less one -/
theorem half_is (xs : List Int) (s : Int) : 2 * ((xs.filter fun o => decide (o < s)).length : Int) + (xs.count s : Int) = Phi sg xs s + xs.length := by
  unfold Phi
  induction xs with
  | nil => rfl
  | cons x xs ih =>
    simp only [List.map_cons, List.sum_cons, List.length_cons, List.filter_cons, List.count_cons]
    unfold sg at ih ⊢
    by_cases h1 : x < s
    · have h2 : ¬ x = s := by omega
      have h3 : 0 < s - x := by omega
      have h4 : (x == s) = false := by simp [h2]
      simp only [h1, decide_true, if_true, List.length_cons, h3, h4]
      simp only [Bool.false_eq_true, if_false]
      omega
    · have h3 : ¬ 0 < s - x := by omega
      by_cases h2 : x = s
      · have h4 : (x == s) = true := by simp [h2]
        have h5 : s - x = 0 := by omega
        simp only [h1, decide_false, Bool.false_eq_true, if_false, h4, if_true, h5, Int.lt_irrefl]
        omega
      · have h4 : (x == s) = false := by simp [h2]
        have h5 : ¬ s - x = 0 := by omega
        simp only [h1, decide_false, Bool.false_eq_true, if_false, h3, h4, h5]
        omega
/-! ### the scale -/
def stepsL : List Int := [20, 50, 90, 130, 170, 220, 270, 320, 370, 430, 500, 600, 750, 900, 1100, 1300, 1500, 1750, 2000, 2250, 2500, 3000, 3500, 4000]
def mag (a : Int) : Nat := (stepsL.filter fun s => decide (s ≤ a)).length
def scl (d : Int) : Int := if 0 < d then (mag d.natAbs : Int) else -(mag d.natAbs : Int)
theorem mag_mono {a b : Int} (h : a ≤ b) : mag a ≤ mag b := by
  unfold mag
  rw [← List.countP_eq_length_filter, ← List.countP_eq_length_filter]
  refine List.countP_mono_left fun x _ hx => ?_
  have := of_decide_eq_true hx
  exact decide_eq_true (by omega)
theorem mag_zero : mag 0 = 0 := by decide
theorem mag_le (a : Int) : mag a ≤ 24 := List.length_filter_le _ _
theorem scl_odd : Odd scl := fun d => by
  unfold scl
  rw [Int.natAbs_neg]
  by_cases h0 : d = 0
  · subst h0
    have := mag_zero
    simp [mag_zero]
  · split <;> split <;> omega
theorem scl_mono : Mono scl := fun a b h => by
  unfold scl
  split
  · split
    · have := mag_mono (a := (a.natAbs : Int)) (b := (b.natAbs : Int)) (by omega)
      omega
    · omega
  · split
    · omega
    · have := mag_mono (a := (b.natAbs : Int)) (b := (a.natAbs : Int)) (by omega)
      omega
theorem scl_pos {a : Int} (h : 0 ≤ a) : 0 ≤ scl a := by
  have h1 : scl 0 = 0 := by decide
  have := scl_mono 0 a h
  omega
theorem scl_le (a : Int) : scl a ≤ 24 := by
  unfold scl
  have := mag_le (a.natAbs : Int)
  split <;> omega
end DL

namespace DL
open PySem PySem.Spec PyProof.Rows L2

/-! ### the law's own contract -/
theorem mem_may {n : Nat} {cs : List Cl} {c : Cl} (h : c ∈ mayL n cs) : c = .pas ∨ c ∈ twiceL cs ∨ c ∈ bidsC n := by
  unfold mayL at h
  split at h
  · cases h
  · rcases List.mem_cons.mp h with h | h
    · exact .inl h
    · rcases List.mem_append.mp h with h | h
      · exact .inr (.inl h)
      · exact .inr (.inr (List.mem_filter.mp h).1)
def dcode : Cl → Nat × Nat
  | .dbl => (1, 0)
  | .rdb => (1, 1)
  | _ => (0, 0)
/-- how often it was doubled since the last bid -/
def DInv (cs : List Cl) : Prop := ∀ m c, lastIx Cl.np cs = some m → cs[m]? = some c → ∃ k, lastIx Cl.isB cs = some k ∧ (cs.drop k).count .dbl = (dcode c).1 ∧ (cs.drop k).count .rdb = (dcode c).2
theorem Leg.dinv {n : Nat} {cs : List Cl} (h : Leg n cs) : DInv cs := by
  induction h with
  | nil => intro m c h; rw [last_nil] at h; cases h
  | @snoc cs c h hm ih =>
    intro m d hm2 hd
    have stay : c.isB = false → lastIx Cl.isB (cs ++ [c]) = lastIx Cl.isB cs := fun z => by rw [last_snoc, z]; rfl
    have dropk : ∀ k, lastIx Cl.isB cs = some k → (cs ++ [c]).drop k = cs.drop k ++ [c] := fun k z => by rw [List.drop_append_of_le_length (Nat.le_of_lt (last_lt z))]
    by_cases hp : c = .pas
    · subst hp
      have e : lastIx Cl.np (cs ++ [.pas]) = lastIx Cl.np cs := by rw [last_snoc]; rfl
      rw [e] at hm2
      rw [List.getElem?_append_left (last_lt hm2)] at hd
      obtain ⟨k, h1, h2, h3⟩ := ih m d hm2 hd
      refine ⟨k, by rw [stay rfl, h1], ?_, ?_⟩
      · rw [dropk k h1, List.count_append, h2]; simp
      · rw [dropk k h1, List.count_append, h3]; simp
    · have hn : c.np = true := by unfold Cl.np; simp [hp]
      have e : lastIx Cl.np (cs ++ [c]) = some cs.length := by rw [last_snoc, hn]; rfl
      rw [e] at hm2
      cases hm2
      have hcd : d = c := by simpa using hd.symm
      subst hcd
      rcases mem_may hm with z | z | z
      · exact absurd z hp
      · unfold twiceL at z
        cases hk : lastIx Cl.np cs with
        | none => rw [hk] at z; cases z
        | some m2 =>
          obtain ⟨y, hy, hyn, _⟩ := np_of hk
          rw [hk] at z
          dsimp only at z
          rw [hy] at z
          split at z
          · obtain ⟨k, h1, h2, h3⟩ := ih m2 y hk hy
            cases y with
            | pas => exact absurd rfl hyn
            | rdb => cases z
            | dbl =>
              have hz : d = .rdb := by simpa using z
              subst hz
              refine ⟨k, by rw [stay rfl, h1], ?_, ?_⟩
              · rw [dropk k h1, List.count_append, h2]; rfl
              · rw [dropk k h1, List.count_append, h3]; rfl
            | bid a b =>
              have hz : d = .dbl := by simpa using z
              subst hz
              refine ⟨k, by rw [stay rfl, h1], ?_, ?_⟩
              · rw [dropk k h1, List.count_append, h2]; rfl
              · rw [dropk k h1, List.count_append, h3]; rfl
          · cases z
      · obtain ⟨a, b, rfl, _⟩ := mem_bids z
        refine ⟨cs.length, by rw [last_snoc]; rfl, ?_, ?_⟩
        · rw [List.drop_left]; rfl
        · rw [List.drop_left]; rfl
theorem times_eq {n : Nat} {cs : List Cl} {k : Nat} (h : Leg n cs) (hk : lastIx Cl.isB cs = some k) : timesP (cs.drop k) = timesL (cs.drop k) := by
  obtain ⟨c, hc, hB⟩ := last_at hk
  cases hm : lastIx Cl.np cs with
  | none =>
    have := last_none hm c (List.mem_of_getElem? hc)
    cases c <;> first | cases hB; done | cases this
  | some m =>
    obtain ⟨d, hd, _, _⟩ := np_of hm
    obtain ⟨k2, h1, h2, h3⟩ := h.dinv m d hm hd
    rw [hk] at h1
    cases h1
    unfold timesP timesL
    rw [h2, h3]
    have m1 : (Cl.dbl ∈ cs.drop k) ↔ 0 < (cs.drop k).count .dbl := List.count_pos_iff.symm
    have m2 : (Cl.rdb ∈ cs.drop k) ↔ 0 < (cs.drop k).count .rdb := List.count_pos_iff.symm
    rw [h2] at m1
    rw [h3] at m2
    cases d <;> simp [dcode] at m1 m2 ⊢ <;> simp [m1, m2]
theorem find_congr {A : Type} {p q : A → Bool} : ∀ {l : List A}, (∀ a ∈ l, p a = q a) → l.find? p = l.find? q
  | [], _ => rfl
  | a :: l, h => by rw [List.find?_cons, List.find?_cons, h a (by simp), find_congr fun b hb => h b (by simp [hb])]
def pJ (cs : List Cl) (s : Int) (k : Nat) (j : Nat) : Bool := match cs[j]? with
  | some (.bid _ t) => decide (t = s) && decide ((j : Int) % 2 = (k : Int) % 2)
  | _ => false
theorem find_ixs {cs : List Cl} {s : Int} {k : Nat} : (ixs Cl.isB cs).find? (pJ cs s k) = (cs.zipIdx.find? (sameB s k)).map (·.2) := by
  unfold ixs
  rw [List.find?_map, List.find?_filter]
  congr 1
  refine find_congr fun q hq => ?_
  obtain ⟨c, j⟩ := q
  have hj : cs[j]? = some c := mem_zip hq
  cases c with
  | bid a b =>
    have e : (decide (((k : Int) - j) % 2 = 0)) = decide ((j : Int) % 2 = (k : Int) % 2) := by
      by_cases h : (j : Int) % 2 = (k : Int) % 2
      · have : ((k : Int) - j) % 2 = 0 := by omega
        simp [h, this]
      · have : ¬ ((k : Int) - j) % 2 = 0 := by omega
        simp [h, this]
    have e2 : pJ cs s k j = (decide (b = s) && decide ((j : Int) % 2 = (k : Int) % 2)) := by unfold pJ; rw [hj]
    show decide ((true : Bool) = true ∧ pJ cs s k j = true) = (decide (b = s) && decide (((k : Int) - j) % 2 = 0))
    rw [e, ← e2]
    simp
  | _ => exact decide_eq_false fun z => Bool.false_ne_true z.1
theorem lcon_c1_ok {d : Option D} {cs : List Cl} (st : Store) (hl : cs.length ≤ 10000) : l_contract_c1 [d, some (rowD cs), none, none, none, none, none, none, none, none] st = .ok (.lst ((ixs Cl.isB cs).map fun k => .int (k : Nat))) st := by
  have := comp_if (tg := tupT (consT (nmT 8) (consT (nmT 9) (nilT)))) (tt := tru (op1 (isiD "tuple") (varE 9))) (elt := varE 8) (ρw := [d, some (rowD cs), none, none, none, none, none, none, none, none]) (s0 := st) (enc := fun q : Cl × Nat => D.ltp [.int q.2, clD q.1]) (l := cs.zipIdx) (l' := pairsN (cs.map clD)) (l0 := []) (fun q => q.1.isB) (fun q => .int q.2)
    (fun x _ s1 => ⟨_, rfl, by simp (disch := first | assumption | omega | (simp only [List.length_cons, List.length_append, List.length_map, List.length_nil, List.length_set, List.length_replicate, rep_length, Nat.zero_add, Nat.mul_one]; omega) | (refine mul_ok ?_ ?_ <;> omega) | (refine cdiv_ok ?_ ?_ <;> omega) | (simp; done) | fail) [is_tupC], fun _ => by simp (disch := first | assumption | omega | (simp only [List.length_cons, List.length_append, List.length_map, List.length_nil, List.length_set, List.length_replicate, rep_length, Nat.zero_add, Nat.mul_one]; omega) | (refine mul_ok ?_ ?_ <;> omega) | (refine cdiv_ok ?_ ?_ <;> omega) | (simp; done) | fail)⟩) (fun _ _ => rfl) (by simp; omega)
  unfold l_contract_c1
  rw [ap_comp]
  simp (disch := first | assumption | omega | (simp only [List.length_cons, List.length_append, List.length_map, List.length_nil, List.length_set, List.length_replicate, rep_length, Nat.zero_add, Nat.mul_one]; omega) | (refine mul_ok ?_ ?_ <;> omega) | (refine cdiv_ok ?_ ?_ <;> omega) | (simp; done) | fail) [rowD]
  rw [← pairsN_row] at this
  unfold rowD at this
  rw [this]
  unfold ixs
  rw [List.map_map]
  rfl
theorem lcon_c2_ok {d l t : Option D} {cs : List Cl} {k : Nat} {s : Int} (st : Store) (hl : cs.length ≤ 10000) :
    l_contract_c2 [d, some (rowD cs), some (.lst ((ixs Cl.isB cs).map fun k => .int (k : Nat))), some (.int (k : Int)), l, some (.int s), t, none, none, none] st = .ok (.lst (((ixs Cl.isB cs).filter (pJ cs s k)).map fun k => .int (k : Nat))) st := by
  have hlen : (ixs Cl.isB cs).length ≤ 10000 := by
    unfold ixs
    rw [List.length_map]
    have := List.length_filter_le (fun q : Cl × Nat => q.1.isB) cs.zipIdx
    simp at this
    omega
  have := comp_if (tg := nmT 8) (tt := andB (tru (op2 eqD (op2 ixD (op2 ixD (varE 1) (varE 8)) (conE (.int 1))) (varE 5))) (tru (op2 eqD (op2 modD (varE 8) (conE (.int 2))) (op2 modD (varE 3) (conE (.int 2)))))) (elt := varE 8) (ρw := [d, some (rowD cs), some (.lst ((ixs Cl.isB cs).map fun k => .int (k : Nat))), some (.int (k : Int)), l, some (.int s), t, none, none, none]) (s0 := st) (enc := fun j : Nat => D.int j) (l := ixs Cl.isB cs) (l' := (ixs Cl.isB cs).map fun k => .int (k : Nat)) (l0 := []) (pJ cs s k) (fun j => .int j)
    (fun j hj s1 => by
      obtain ⟨c, hc, hB⟩ := ixs_mem hj
      obtain ⟨a, b, rfl⟩ := isB_of hB
      have hix : ∀ q, ixD (rowD cs) (.int (j : Int)) q = some (.tup [.int a, .int b]) := fun q => ix_row hc
      refine ⟨_, rfl, ?_, fun _ => by simp (disch := first | assumption | omega | (simp only [List.length_cons, List.length_append, List.length_map, List.length_nil, List.length_set, List.length_replicate, rep_length, Nat.zero_add, Nat.mul_one]; omega) | (refine mul_ok ?_ ?_ <;> omega) | (refine cdiv_ok ?_ ?_ <;> omega) | (simp; done) | fail)⟩
      have e : pJ cs s k j = (decide (b = s) && decide ((j : Int) % 2 = (k : Int) % 2)) := by unfold pJ; rw [hc]
      rw [e]
      by_cases h1 : b = s <;> by_cases h2 : (j : Int) % 2 = (k : Int) % 2 <;> simp (disch := first | assumption | omega | (simp only [List.length_cons, List.length_append, List.length_map, List.length_nil, List.length_set, List.length_replicate, rep_length, Nat.zero_add, Nat.mul_one]; omega) | (refine mul_ok ?_ ?_ <;> omega) | (refine cdiv_ok ?_ ?_ <;> omega) | (simp; done) | fail) [hix, h1, h2]) (fun _ _ => rfl) (by omega)
  unfold l_contract_c2
  rw [ap_comp]
  simp (disch := first | assumption | omega | (simp only [List.length_cons, List.length_append, List.length_map, List.length_nil, List.length_set, List.length_replicate, rep_length, Nat.zero_add, Nat.mul_one]; omega) | (refine mul_ok ?_ ?_ <;> omega) | (refine cdiv_ok ?_ ?_ <;> omega) | (simp; done) | fail)
  exact this
theorem find_some {A : Type} {p : A → Bool} {l : List A} {a : A} (m : a ∈ l) (h : p a = true) : ∃ b, l.find? p = some b := by
  cases hf : l.find? p with
  | some b => exact ⟨b, rfl⟩
  | none =>
    have := List.find?_eq_none.mp hf a m
    exact absurd h this
theorem lcontract_ok {dealer : Int} {n : Nat} {cs : List Cl} (st : Store) (hL : Leg n cs) (hl : cs.length ≤ 10000) (hov : over cs = true) : f_l_contract [.int dealer, rowD cs] st = .ok (conP dealer cs) st := by
  have h1 : ∀ q, l_contract_c1 [some (.int dealer), some (rowD cs), none, none, none, none, none, none, none, none] q = .ok (.lst ((ixs Cl.isB cs).map fun k => .int (k : Nat))) q := fun q => lcon_c1_ok q hl
  have ht3 : tail3 cs = [.pas, .pas, .pas] := by
    unfold over at hov
    rw [Bool.and_eq_true] at hov
    exact of_decide_eq_true hov.2
  have hsl3 : ∀ q, slD (rowD cs) (some (-3)) none q = some (D.tup [.str "pass", .str "pass", .str "pass"]) := fun q => by
    show some (D.tup (cutL (cs.map clD) (some (-3)) none)) = _
    rw [cut_tail3, List.length_map, ← List.map_drop]
    show some (D.tup ((tail3 cs).map clD)) = _
    rw [ht3]
    rfl
  have hne3 : ∀ q, neD (D.tup [.str "pass", .str "pass", .str "pass"]) (D.tup [.str "pass", .str "pass", .str "pass"]) q = some (.bl false) := fun q => by
    have := eqvL_row (cs := [.pas, .pas, .pas]) (ds := [.pas, .pas, .pas])
    rw [ne_tup]
    show some (D.bl (!eqvL ([Cl.pas, .pas, .pas].map clD) ([Cl.pas, .pas, .pas].map clD))) = _
    rw [this]
    rfl
  unfold conP
  cases hk : lastIx Cl.isB cs with
  | none =>
    have hi : ixs Cl.isB cs = [] := List.getLast?_eq_none_iff.mp hk
    simp (disch := first | assumption | omega | (simp only [List.length_cons, List.length_append, List.length_map, List.length_nil, List.length_set, List.length_replicate, rep_length, Nat.zero_add, Nat.mul_one]; omega) | (refine mul_ok ?_ ?_ <;> omega) | (refine cdiv_ok ?_ ?_ <;> omega) | (simp; done) | fail) [f_l_contract, b_l_contract, h1, hi]
  | some k =>
    obtain ⟨c, hc, hB⟩ := last_at hk
    obtain ⟨l, s, rfl⟩ := isB_of hB
    have hix : ∀ q, ixD (rowD cs) (.int (k : Int)) q = some (.tup [.int l, .int s]) := fun q => ix_row hc
    have hsl : ∀ q, slD (rowD cs) (some (k : Int)) none q = some (rowD (cs.drop k)) := fun q => sl_row
    have hne : ¬ (ixs Cl.isB cs = []) := fun z => by unfold lastIx at hk; rw [z] at hk; cases hk
    have hne2 : ((ixs Cl.isB cs).map fun k => D.int (k : Nat)).isEmpty = false := by simpa using hne
    have ha : atI ((ixs Cl.isB cs).map fun k => D.int (k : Nat)) (-1) = some (.int (k : Nat)) := atI_last (by rw [List.getLast?_map]; unfold lastIx at hk; rw [hk]; rfl)
    have hcd : ∀ q, mcR countO (rowD (cs.drop k)) [.str "double"] q = some (.int ((cs.drop k).count .dbl : Nat)) := fun q => countO_row (c := .dbl)
    have hcr : ∀ q, mcR countO (rowD (cs.drop k)) [.str "redouble"] q = some (.int ((cs.drop k).count .rdb : Nat)) := fun q => countO_row (c := .rdb)
    have h2 : ∀ l t q, l_contract_c2 [some (.int dealer), some (rowD cs), some (.lst ((ixs Cl.isB cs).map fun k => .int (k : Nat))), some (.int (k : Int)), l, some (.int s), t, none, none, none] q = .ok (.lst (((ixs Cl.isB cs).filter (pJ cs s k)).map fun k => .int (k : Nat))) q := fun l t q => lcon_c2_ok q hl
    have hmem : k ∈ ixs Cl.isB cs := List.mem_of_getLast? (by unfold lastIx at hk; exact hk)
    have hpk : pJ cs s k k = true := by unfold pJ; rw [hc]; simp
    obtain ⟨j, hj⟩ := find_some hmem hpk
    have hfz := find_ixs (cs := cs) (s := s) (k := k)
    rw [hj] at hfz
    obtain ⟨q, hq1, hq2⟩ : ∃ q, cs.zipIdx.find? (sameB s k) = some q ∧ q.2 = j := by
      cases hz : cs.zipIdx.find? (sameB s k) with
      | none => rw [hz] at hfz; cases hfz
      | some q => rw [hz] at hfz; exact ⟨q, rfl, (Option.some.inj hfz).symm⟩
    have hat0 : atI (((ixs Cl.isB cs).filter (pJ cs s k)).map fun k => D.int (k : Nat)) 0 = some (.int (j : Nat)) := by
      refine atI_at (j := 0) ?_
      rw [List.getElem?_map, ← List.head?_eq_getElem?, List.head?_filter, hj]
      rfl
    rw [show ((some k).bind fun k => (cs[k]?).map fun c => (k, c)) = some (k, .bid l s) by show (cs[k]?).map _ = _; rw [hc]; rfl]
    dsimp only
    rw [hov, hq1, times_eq hL hk]
    dsimp only
    rw [if_pos rfl, hq2]
    have c1 : (cs.drop k).count .dbl ≤ 10000 := Nat.le_trans (List.count_le_length ..) (by simp; omega)
    have c2 : (cs.drop k).count .rdb ≤ 10000 := Nat.le_trans (List.count_le_length ..) (by simp; omega)
    generalize hxs : (((ixs Cl.isB cs).filter (pJ cs s k)).map fun k => D.int (k : Nat)) = xs at h2 hat0
    generalize (ixs Cl.isB cs).map (fun k => D.int (k : Nat)) = ys at h1 h2 ha hne2
    simp (disch := first | assumption | omega | (simp only [List.length_cons, List.length_append, List.length_map, List.length_nil, List.length_set, List.length_replicate, rep_length, Nat.zero_add, Nat.mul_one]; omega) | (refine mul_ok ?_ ?_ <;> omega) | (refine cdiv_ok ?_ ?_ <;> omega) | (simp; done) | fail) [f_l_contract, b_l_contract, h1, hne2, hsl3, hne3, ha, hix, hsl, hcd, hcr, h2, hat0, conD, timesL, -ne_tup]
end DL

namespace DL
open PySem PySem.Spec PyProof.Rows L2

def b_is_whole : DenS :=
  retS (andE (op1 (isiD "int") (varE 0)) (notE (op1 (isiD "bool") (varE 0))))
def f_is_whole : Fn := defG 1 1 b_is_whole
def b_is_bid : DenS :=
  seqS (ifS (orB (notB (tru (op1 (isiD "tuple") (varE 1)))) (orB (tru (op2 neD (opL lenO (consL (varE 1) (nilL))) (conE (.int 2)))) (orB (notB (tru (callE 1 f_is_whole (consL (op2 ixD (varE 1) (conE (.int 0))) (nilL))))) (notB (tru (callE 1 f_is_whole (consL (op2 ixD (varE 1) (conE (.int 1))) (nilL)))))))) (retS (conE (.bl false))) (skipS)) (retS (andE (chainE leD leD (conE (.int 1)) (op2 ixD (varE 1) (conE (.int 0))) (varE 0)) (chainE leD leD (conE (.int 0)) (op2 ixD (varE 1) (conE (.int 1))) (conE (.int 4)))))
def f_is_bid : Fn := defG 2 2 b_is_bid
def b_is_call : DenS :=
  seqS (ifS (tru (op1 (isiD "str") (varE 1))) (retS (op2 inD (varE 1) (tupE (consL (conE (.str "pass")) (consL (conE (.str "double")) (consL (conE (.str "redouble")) (nilL))))))) (skipS)) (retS (callE 2 f_is_bid (consL (varE 0) (consL (varE 1) (nilL)))))
def f_is_call : Fn := defG 2 2 b_is_call

def calls_fault_b1 : DenS :=
  ifS (orB (notB (tru (callE 2 f_is_call (consL (varE 0) (consL (varE 3) (nilL)))))) (tru (op2 ninD (varE 3) (callE 2 f_may_call (consL (varE 0) (consL (slE (varE 1) (noO) (soO (varE 2))) (nilL))))))) (retS (varE 2)) (skipS)
def calls_fault_l1 : DenS :=
  forS (enumE (varE 1)) (tupT (consT (nmT 2) (consT (nmT 3) (nilT)))) (calls_fault_b1) [2, 3]
def b_calls_fault : DenS :=
  seqS (calls_fault_l1) (retS (conE .non))
def f_calls_fault : Fn := defG 4 2 b_calls_fault

/-! ### faults -/
theorem whole_int {i : Int} (st : Store) : f_is_whole [.int i] st = .ok (.bl true) st := by simp (disch := first | assumption | omega | (simp only [List.length_cons, List.length_append, List.length_map, List.length_nil, List.length_set, List.length_replicate, rep_length, Nat.zero_add, Nat.mul_one]; omega) | (refine mul_ok ?_ ?_ <;> omega) | (refine cdiv_ok ?_ ?_ <;> omega) | (simp; done) | fail) [f_is_whole, b_is_whole]
def callB (n : Int) : Cl → Bool
  | .bid l s => decide (1 ≤ l) && decide (l ≤ n) && (decide (0 ≤ s) && decide (s ≤ 4))
  | _ => true
@[simp] theorem ap_chain (o o' : O2) (f g h : Den) (ρ : Env) (st : Store) : chainE o o' f g h ρ st = (f ρ st).bind fun a s1 => (g ρ s1).bind fun b s2 => (Res.of (o a b s2) s2).bind fun z s3 => linkE o' h ρ b z s3 := Eq.trans rfl rfl
@[simp] theorem link_true {o' : O2} {h : Den} {ρ : Env} {b : D} {s : Store} : linkE o' h ρ b (.bl true) s = (h ρ s).bind fun c s4 => Res.of (o' b c s4) s4 := Eq.trans rfl rfl
@[simp] theorem link_false {o' : O2} {h : Den} {ρ : Env} {b : D} {s : Store} : linkE o' h ρ b (.bl false) s = .ok (.bl false) s := Eq.trans rfl rfl
theorem is_bid_ok {n l s : Int} (st : Store) : f_is_bid [.int n, clD (.bid l s)] st = .ok (.bl (callB n (.bid l s))) st := by
  by_cases h1 : 1 ≤ l <;> by_cases h2 : l ≤ n <;> by_cases h3 : 0 ≤ s <;> by_cases h4 : s ≤ 4 <;> simp (disch := first | assumption | omega | (simp only [List.length_cons, List.length_append, List.length_map, List.length_nil, List.length_set, List.length_replicate, rep_length, Nat.zero_add, Nat.mul_one]; omega) | (refine mul_ok ?_ ?_ <;> omega) | (refine cdiv_ok ?_ ?_ <;> omega) | (simp; done) | fail) [f_is_bid, b_is_bid, clD, whole_int, callB, h1, h2, h3, h4]
theorem is_call_ok {n : Int} (c : Cl) (st : Store) : f_is_call [.int n, clD c] st = .ok (.bl (callB n c)) st := by
  have hin : ∀ (c : Cl) (x : Str), clD c = .str x → ∀ q, inD (.str x) (.tup [.str "pass", .str "double", .str "redouble"]) q = some (.bl (decide (c ∈ [Cl.pas, .dbl, .rdb]))) := fun c x h q => in_row (ds := [Cl.pas, .dbl, .rdb]) h
  cases c with
  | bid l s =>
    have h := is_bid_ok (n := n) (l := l) (s := s) st
    unfold clD at h
    simp (disch := first | assumption | omega | (simp only [List.length_cons, List.length_append, List.length_map, List.length_nil, List.length_set, List.length_replicate, rep_length, Nat.zero_add, Nat.mul_one]; omega) | (refine mul_ok ?_ ?_ <;> omega) | (refine cdiv_ok ?_ ?_ <;> omega) | (simp; done) | fail) [f_is_call, b_is_call, clD, h]
  | pas => simp (disch := first | assumption | omega | (simp only [List.length_cons, List.length_append, List.length_map, List.length_nil, List.length_set, List.length_replicate, rep_length, Nat.zero_add, Nat.mul_one]; omega) | (refine mul_ok ?_ ?_ <;> omega) | (refine cdiv_ok ?_ ?_ <;> omega) | (simp; done) | fail) [f_is_call, b_is_call, clD, hin .pas _ rfl, callB]
  | dbl => simp (disch := first | assumption | omega | (simp only [List.length_cons, List.length_append, List.length_map, List.length_nil, List.length_set, List.length_replicate, rep_length, Nat.zero_add, Nat.mul_one]; omega) | (refine mul_ok ?_ ?_ <;> omega) | (refine cdiv_ok ?_ ?_ <;> omega) | (simp; done) | fail) [f_is_call, b_is_call, clD, hin .dbl _ rfl, callB]
  | rdb => simp (disch := first | assumption | omega | (simp only [List.length_cons, List.length_append, List.length_map, List.length_nil, List.length_set, List.length_replicate, rep_length, Nat.zero_add, Nat.mul_one]; omega) | (refine mul_ok ?_ ?_ <;> omega) | (refine cdiv_ok ?_ ?_ <;> omega) | (simp; done) | fail) [f_is_call, b_is_call, clD, hin .rdb _ rfl, callB]
/-- the first call that may not be made -/
def faultC (n : Nat) (cs : List Cl) : Option Nat := (cs.zipIdx.find? fun q => !decide (q.1 ∈ mayC n (cs.take q.2))).map (·.2)
theorem callB_of {n : Nat} {cs : List Cl} {c : Cl} (h : c ∈ mayC n cs) : callB n c = true := by
  unfold mayC at h
  split at h
  · cases h
  · rcases List.mem_cons.mp h with h | h
    · subst h; rfl
    · rcases List.mem_append.mp h with h | h
      · unfold twiceC at h
        split at h
        · cases h
        · split at h
          · split at h <;> first | (cases List.mem_singleton.mp h; rfl) | cases h
          · cases h
      · obtain ⟨l, s, rfl, h1, h2, h3, h4⟩ := mem_bids (List.mem_filter.mp h).1
        simp [callB, h1, h2, h3, h4]
theorem nin_rowC {c : Cl} {ds : List Cl} {st : Store} : ninD (clD c) (rowD ds) st = some (.bl (!decide (c ∈ ds))) := by
  have f1 : fits (clD c) 60 = true := fit_clD
  have f2 : fitsL (ds.map clD) 60 = true := fit_row
  have e : ∀ d : D, (∀ x y, ¬ (d = .str x ∧ rowD ds = .str y)) → ninD d (rowD ds) st = if (fits d 60 && fitsL (ds.map clD) 60) = true then some (.bl (!inL d (ds.map clD))) else none := fun d _ => by cases d <;> rfl
  rw [e _ (fun x y z => by cases z.2), f1, f2, inL_row]
  rfl
theorem in_rowC {c : Cl} {ds : List Cl} {st : Store} : inD (clD c) (rowD ds) st = some (.bl (decide (c ∈ ds))) := by
  have f1 : fits (clD c) 60 = true := fit_clD
  have f2 : fitsL (ds.map clD) 60 = true := fit_row
  have e : ∀ d : D, inD d (rowD ds) st = if (fits d 60 && fitsL (ds.map clD) 60) = true then some (.bl (inL d (ds.map clD))) else none := fun d => by cases d <;> rfl
  rw [e, f1, f2, inL_row]
  rfl
theorem calls_fault_ok {n : Int} (cs : List Cl) (st : Store) (h : 0 ≤ n ∧ n ≤ 1000) : f_calls_fault [.int n, rowD cs] st = .ok (oN (faultC n.toNat cs)) st := by
  have loop : calls_fault_l1 [some (.int n), some (rowD cs), none, none] st = match cs.zipIdx.find? (fun q => !decide (q.1 ∈ mayC n.toNat (cs.take q.2))) with
      | some q => .ret (.int (q.2 : Nat)) st
      | none => .next [some (.int n), some (rowD cs), none, none] st := by
    have := for_first (fun q : Cl × Nat => D.ltp [.int q.2, clD q.1]) (fun q => !decide (q.1 ∈ mayC n.toNat (cs.take q.2))) (fun q => .int (q.2 : Nat)) (tg := tupT (consT (nmT 2) (consT (nmT 3) (nilT)))) (body := calls_fault_b1) (ks := [2, 3]) (ρ := [some (.int n), some (rowD cs), none, none]) (st := st) (l0 := pairsN (cs.map clD)) cs.zipIdx
      (fun q _ hp k2 => by
        obtain ⟨c, j⟩ := q
        have hm : c ∈ mayC n.toNat (cs.take j) := by simpa using hp
        have hsl : ∀ q, slD (rowD cs) none (some (j : Int)) q = some (rowD (cs.take j)) := fun q => by
          unfold rowD
          rw [sl_tup, cut_to (by omega), Int.toNat_natCast, List.map_take]
        have hcb : callB n c = true := by
          have := callB_of hm
          rwa [Int.toNat_of_nonneg h.1] at this
        simp (disch := first | assumption | omega | (simp only [List.length_cons, List.length_append, List.length_map, List.length_nil, List.length_set, List.length_replicate, rep_length, Nat.zero_add, Nat.mul_one]; omega) | (refine mul_ok ?_ ?_ <;> omega) | (refine cdiv_ok ?_ ?_ <;> omega) | (simp; done) | fail) [calls_fault_b1, is_call_ok, hcb, hsl, may_ok _ _ h, nin_rowC, hm])
      (fun q _ hp k2 => by
        obtain ⟨c, j⟩ := q
        have hm : ¬ c ∈ mayC n.toNat (cs.take j) := by simpa using hp
        have hsl : ∀ q, slD (rowD cs) none (some (j : Int)) q = some (rowD (cs.take j)) := fun q => by
          unfold rowD
          rw [sl_tup, cut_to (by omega), Int.toNat_natCast, List.map_take]
        cases hcb : callB n c <;> simp (disch := first | assumption | omega | (simp only [List.length_cons, List.length_append, List.length_map, List.length_nil, List.length_set, List.length_replicate, rep_length, Nat.zero_add, Nat.mul_one]; omega) | (refine mul_ok ?_ ?_ <;> omega) | (refine cdiv_ok ?_ ?_ <;> omega) | (simp; done) | fail) [calls_fault_b1, is_call_ok, hcb, hsl, may_ok _ _ h, nin_rowC, hm])
    unfold calls_fault_l1
    rw [ap_for]
    rw [← pairsN_row] at this
    unfold rowD at this ⊢
    simp (disch := first | assumption | omega | (simp only [List.length_cons, List.length_append, List.length_map, List.length_nil, List.length_set, List.length_replicate, rep_length, Nat.zero_add, Nat.mul_one]; omega) | (refine mul_ok ?_ ?_ <;> omega) | (refine cdiv_ok ?_ ?_ <;> omega) | (simp; done) | fail)
    refine this.trans ?_
    cases cs.zipIdx.find? (fun q => !decide (q.1 ∈ mayC n.toNat (cs.take q.2))) <;> rfl
  unfold faultC
  cases hf : cs.zipIdx.find? (fun q => !decide (q.1 ∈ mayC n.toNat (cs.take q.2))) with
  | none =>
    rw [hf] at loop
    simp (disch := first | assumption | omega | (simp only [List.length_cons, List.length_append, List.length_map, List.length_nil, List.length_set, List.length_replicate, rep_length, Nat.zero_add, Nat.mul_one]; omega) | (refine mul_ok ?_ ?_ <;> omega) | (refine cdiv_ok ?_ ?_ <;> omega) | (simp; done) | fail) [f_calls_fault, b_calls_fault, loop]
  | some q =>
    rw [hf] at loop
    simp (disch := first | assumption | omega | (simp only [List.length_cons, List.length_append, List.length_map, List.length_nil, List.length_set, List.length_replicate, rep_length, Nat.zero_add, Nat.mul_one]; omega) | (refine mul_ok ?_ ?_ <;> omega) | (refine cdiv_ok ?_ ?_ <;> omega) | (simp; done) | fail) [f_calls_fault, b_calls_fault, loop]
end DL

namespace DL
open PySem PySem.Spec PyProof.Rows L2
def tab_STEPS : List Int := [20, 50, 90, 130, 170, 220, 270, 320, 370, 430, 500, 600, 750, 900, 1100, 1300, 1500, 1750, 2000, 2250, 2500, 3000, 3500, 4000]
def halves_c1 : Den :=
  compE (itE (varE 0)) (nmT 4) (tru (op2 ltD (varE 4) (varE 2))) (conE (.int 1)) [4]
def halves_b1 : DenS :=
  seqS (asgS 3 (opL lenO (consL (halves_c1) (nilL)))) (exprS (mdE appO (varE 1) (consL (op2 subD (op2 addD (op2 mulD (conE (.int 2)) (varE 3)) (mcE countO (varE 0) (consL (varE 2) (nilL)))) (conE (.int 1))) (nilL))))
def halves_l1 : DenS :=
  forS (itE (varE 0)) (nmT 2) (halves_b1) [2, 3]
def b_halves : DenS :=
  seqS (asgS 1 (newE (nilL))) (seqS (halves_l1) (retS (opL tupleO (consL (varE 1) (nilL)))))
def f_halves : Fn := defG 5 1 b_halves
def scaled_c1 : Den :=
  compE (itE (conE (.tup (tab_STEPS.map .int)))) (nmT 2) (tru (op2 leD (varE 2) (opL absO (consL (varE 0) (nilL))))) (varE 2) [2]
def b_scaled : DenS :=
  seqS (asgS 1 (opL lenO (consL (scaled_c1) (nilL)))) (retS (ifE (tru (op2 gtD (varE 0) (conE (.int 0)))) (varE 1) (op1 negD (varE 1))))
def f_scaled : Fn := defG 3 1 b_scaled
def cross_c2 : Den :=
  compE (itE (varE 0)) (nmT 2) (yesB) (callE 1 f_scaled (consL (op2 subD (varE 1) (varE 2)) (nilL))) [2]
def cross_c1 : Den :=
  compE (itE (varE 0)) (nmT 1) (yesB) (opL sumO (consL (cross_c2) (nilL))) [1]
def b_cross : DenS :=
  retS (opL tupleO (consL (cross_c1) (nilL)))
def f_cross : Fn := defG 3 1 b_cross
def law_k22_c1 : Den :=
  compE (rng1E (conE (.int 4))) (nmT 16) (yesB) (op2 subD (op2 mulD (callE 3 f_l_draw_k01 (consL (varE 0) (consL (varE 1) (consL (conE (.int 400)) (nilL))))) (conE (.int 10))) (conE (.int 2000))) [16]
def law_k22_c2 : Den :=
  compE (rng1E (op2 addD (conE (.int 1)) (callE 3 f_l_draw_k01 (consL (varE 0) (consL (varE 1) (consL (conE (.int 9)) (nilL))))))) (nmT 16) (yesB) (callE 3 f_l_pick (consL (varE 0) (consL (varE 1) (consL (varE 3) (nilL))))) [16]
def law_k22_b3 : DenS :=
  ifS (orB (andB (tru (op2 gtD (varE 8) (varE 11))) (orB (tru (op2 leD (varE 9) (varE 12))) (tru (op2 ltD (varE 10) (varE 13))))) (andB (tru (op2 eqD (varE 8) (varE 11))) (tru (op2 neD (tupE (consL (varE 9) (consL (varE 10) (nilL)))) (tupE (consL (varE 12) (consL (varE 13) (nilL)))))))) (retS (conE (.bl false))) (skipS)
def law_k22_l3 : DenS :=
  forS (zip3E (consL (varE 4) (consL (varE 6) (consL (varE 7) (nilL))))) (tupT (consT (nmT 11) (consT (nmT 12) (consT (nmT 13) (nilT))))) (law_k22_b3) [11]
def law_k22_b2 : DenS :=
  law_k22_l3
def law_k22_l2 : DenS :=
  forS (zip3E (consL (varE 4) (consL (varE 6) (consL (varE 7) (nilL))))) (tupT (consT (nmT 8) (consT (nmT 9) (consT (nmT 10) (nilT))))) (law_k22_b2) [8, 9, 10, 11]
def law_k22_c3 : Den :=
  compE (itE (varE 4)) (nmT 17) (yesB) (op2 subD (conE (.int 0)) (varE 17)) [17]
def law_k22_c4 : Den :=
  compE (itE (varE 6)) (nmT 12) (yesB) (op2 subD (op2 subD (op2 mulD (conE (.int 2)) (varE 5)) (conE (.int 2))) (varE 12)) [12]
def law_k22_c5 : Den :=
  compE (itE (varE 7)) (nmT 13) (yesB) (op2 subD (conE (.int 0)) (varE 13)) [13]
def law_k22_c6 : Den :=
  compE (itE (varE 4)) (nmT 17) (yesB) (op2 addD (varE 17) (conE (.int 130))) [17]
def law_k22_b1 : DenS :=
  seqS (asgS 3 (op2 addD (law_k22_c1) (lstE (consL (conE (.int 50)) (consL (conE (.int 420)) (consL (op1 negD (conE (.int 100))) (nilL))))))) (seqS (asgS 4 (opL tupleO (consL (law_k22_c2) (nilL)))) (seqS (tgtS (tupT (consT (nmT 5) (consT (nmT 6) (consT (nmT 7) (nilT))))) (tupE (consL (opL lenO (consL (varE 4) (nilL))) (consL (callE 1 f_halves (consL (varE 4) (nilL))) (consL (callE 1 f_cross (consL (varE 4) (nilL))) (nilL)))))) (seqS (ifS (orB (tru (op2 neD (opL sumO (consL (varE 6) (nilL))) (op2 mulD (varE 5) (op2 subD (varE 5) (conE (.int 1)))))) (orB (tru (op2 neD (opL sumO (consL (varE 7) (nilL))) (conE (.int 0)))) (notB (tru (chain3E leD leD leD (conE (.int 0)) (opL minTO (consL (varE 6) (nilL))) (opL maxTO (consL (varE 6) (nilL))) (op2 subD (op2 mulD (conE (.int 2)) (varE 5)) (conE (.int 2)))))))) (retS (conE (.bl false))) (skipS)) (seqS (law_k22_l2) (seqS (asgS 14 (opL tupleO (consL (law_k22_c3) (nilL)))) (seqS (ifS (notB (tru (callE 2 (f_l_same dep_l_same) (consL (callE 1 f_halves (consL (varE 14) (nilL))) (consL (opL tupleO (consL (law_k22_c4) (nilL))) (nilL)))))) (retS (conE (.bl false))) (skipS)) (seqS (ifS (notB (tru (callE 2 (f_l_same dep_l_same) (consL (callE 1 f_cross (consL (varE 14) (nilL))) (consL (opL tupleO (consL (law_k22_c5) (nilL))) (nilL)))))) (retS (conE (.bl false))) (skipS)) (seqS (ifS (notB (tru (callE 2 (f_l_same dep_l_same) (consL (tupE (consL (callE 1 f_halves (consL (op1 revD (varE 4)) (nilL))) (consL (callE 1 f_cross (consL (op1 revD (varE 4)) (nilL))) (nilL)))) (consL (tupE (consL (op1 revD (varE 6)) (consL (op1 revD (varE 7)) (nilL)))) (nilL)))))) (retS (conE (.bl false))) (skipS)) (seqS (asgS 15 (opL tupleO (consL (law_k22_c6) (nilL)))) (seqS (ifS (notB (tru (callE 2 (f_l_same dep_l_same) (consL (tupE (consL (callE 1 f_halves (consL (varE 15) (nilL))) (consL (callE 1 f_cross (consL (varE 15) (nilL))) (nilL)))) (consL (tupE (consL (varE 6) (consL (varE 7) (nilL)))) (nilL)))))) (retS (conE (.bl false))) (skipS)) (seqS (parS2 8 9 (consL (callE 3 f_l_draw_k01 (consL (varE 0) (consL (varE 1) (consL (conE (.int 5000)) (nilL))))) (consL (callE 3 f_l_draw_k01 (consL (varE 0) (consL (varE 1) (consL (conE (.int 5000)) (nilL))))) (nilL)))) (seqS (ifS (orB (notB (tru (callE 2 (f_l_same dep_l_same) (consL (callE 1 f_cross (consL (tupE (consL (varE 8) (consL (varE 9) (nilL)))) (nilL))) (consL (tupE (consL (callE 1 f_scaled (consL (op2 subD (varE 8) (varE 9)) (nilL))) (consL (callE 1 f_scaled (consL (op2 subD (varE 9) (varE 8)) (nilL))) (nilL)))) (nilL)))))) (tru (op2 neD (callE 1 f_scaled (consL (op1 negD (varE 8)) (nilL))) (op1 negD (callE 1 f_scaled (consL (varE 8) (nilL))))))) (retS (conE (.bl false))) (skipS)) (ifS (orB (notB (tru (chain3E leD leD leD (conE (.int 0)) (opL maxO (consL (callE 1 f_scaled (consL (varE 8) (nilL))) (consL (callE 1 f_scaled (consL (varE 9) (nilL))) (nilL)))) (callE 1 f_scaled (consL (op2 addD (varE 8) (varE 9)) (nilL))) (conE (.int 24))))) (andB (tru (op2 ltD (varE 8) (varE 9))) (tru (op2 gtD (callE 1 f_scaled (consL (varE 8) (nilL))) (callE 1 f_scaled (consL (varE 9) (nilL))))))) (retS (conE (.bl false))) (skipS))))))))))))))
def law_k22_l1 : DenS :=
  forS (rng1E (conE (.int 8))) (nmT 2) (law_k22_b1) [2, 3, 4, 5, 6, 7, 8, 9, 10, 11, 14, 15]
def b_law_k22 : DenS :=
  seqS (asgS 1 (newE (nilL))) (seqS (law_k22_l1) (retS (conE (.bl true))))
def f_law_k22 : Fn := defG 18 1 b_law_k22
/-! ### the boards' sums -/
def hlf (xs : List Int) (s : Int) : Int := Phi sg xs s + xs.length - 1
def halv (xs : List Int) : List Int := xs.map (hlf xs)
def crs (xs : List Int) : List Int := PhiL scl xs
theorem halves_ok {xs : List Int} (st : Store) (hl : xs.length ≤ 100) : f_halves [.tup (xs.map .int)] st = .ok (.tup ((halv xs).map .int)) st := by
  have hl1 : halves_l1 [some (.tup (xs.map .int)), some (.ref st.length), none, none, none] (st ++ [.lst []]) = .next [some (.tup (xs.map .int)), some (.ref st.length), none, none, none] (st ++ [.lst ((halv xs).map .int)]) := by
    obtain ⟨ρ', st', ⟨rfl, rfl⟩, e⟩ := fAll (f := itE (varE 0)) (tg := nmT 2) (body := halves_b1) (ks := [2, 3]) (ρ := [some (.tup (xs.map .int)), some (.ref st.length), none, none, none]) (st := st ++ [.lst []]) (s0 := st ++ [.lst []]) (enc := D.int) (l := xs)
      (fun i ρ s => ρ = [some (.tup (xs.map .int)), some (.ref st.length), none, none, none] ∧ s = st ++ [.lst (((xs.take i).map (hlf xs)).map .int)]) (by simp (disch := first | assumption | omega | (simp only [List.length_cons, List.length_append, List.length_map, List.length_nil, List.length_set, List.length_replicate, rep_length, Nat.zero_add, Nat.mul_one]; omega) | (refine mul_ok ?_ ?_ <;> omega) | (refine cdiv_ok ?_ ?_ <;> omega) | (simp; done) | fail)) ⟨rfl, rfl⟩ (fun i x ρ s hx ⟨e1, e2⟩ => by
        subst e1 e2
        have hi := (List.getElem?_eq_some_iff.mp hx).1
        have hc1 : ∀ s : Store, halves_c1 [some (.tup (xs.map .int)), some (.ref st.length), some (.int x), none, none] s = .ok (.lst ((xs.filter fun o => decide (o < x)).map fun _ => .int 1)) s := fun s => by
          refine cIf (enc := D.int) (l := xs) (fun o => decide (o < x)) (fun _ => .int 1) (by simp (disch := first | assumption | omega | (simp only [List.length_cons, List.length_append, List.length_map, List.length_nil, List.length_set, List.length_replicate, rep_length, Nat.zero_add, Nat.mul_one]; omega) | (refine mul_ok ?_ ?_ <;> omega) | (refine cdiv_ok ?_ ?_ <;> omega) | (simp; done) | fail)) (fun y hy s1 => ⟨_, rfl, by simp (disch := first | assumption | omega | (simp only [List.length_cons, List.length_append, List.length_map, List.length_nil, List.length_set, List.length_replicate, rep_length, Nat.zero_add, Nat.mul_one]; omega) | (refine mul_ok ?_ ?_ <;> omega) | (refine cdiv_ok ?_ ?_ <;> omega) | (simp; done) | fail), fun _ => by simp (disch := first | assumption | omega | (simp only [List.length_cons, List.length_append, List.length_map, List.length_nil, List.length_set, List.length_replicate, rep_length, Nat.zero_add, Nat.mul_one]; omega) | (refine mul_ok ?_ ?_ <;> omega) | (refine cdiv_ok ?_ ?_ <;> omega) | (simp; done) | fail)⟩) (fun _ _ => rfl) (by omega)
        have hct : ∀ q, mcR countO (.tup (xs.map .int)) [.int x] q = some (.int (xs.count x : Nat)) := fun q => count_tupI
        have hfl : ((xs.filter fun o => decide (o < x)).map fun _ => D.int 1).length = (xs.filter fun o => decide (o < x)).length := List.length_map ..
        have hle := List.length_filter_le (fun o => decide (o < x)) xs
        have hh := half_is xs x
        have hlen : (((xs.take i).map (hlf xs)).map D.int).length ≤ 100 := by rw [List.length_map, List.length_map, List.length_take]; omega
        refine ⟨_, _, ⟨rfl, rfl⟩, fun k => ?_⟩
        rw [take_snocA hx, List.map_append, List.map_append]
        have hv : hlf xs x = 2 * ((xs.filter fun o => decide (o < x)).length : Int) + (xs.count x : Int) - 1 := by unfold hlf; omega
        rw [show List.map D.int (List.map (hlf xs) [x]) = [.int (2 * ((xs.filter fun o => decide (o < x)).length : Int) + (xs.count x : Int) - 1)] by rw [List.map_cons, List.map_nil, hv]; rfl]
        generalize ((xs.filter fun o => decide (o < x)).map fun _ => D.int 1) = zl at *
        generalize (xs.filter fun o => decide (o < x)).length = nl at *
        generalize xs.count x = cn at *
        generalize (((xs.take i).map (hlf xs)).map D.int) = acc at *
        generalize xs.map D.int = xd at *
        have hm : ∀ q, mulD (.int 2) (.int (nl : Int)) q = some (.int (2 * (nl : Int))) := fun q => mul_int (mul_ok (by omega) (by omega))
        simp (disch := first | assumption | omega | (simp only [List.length_cons, List.length_append, List.length_map, List.length_nil, List.length_set, List.length_replicate, rep_length, Nat.zero_add, Nat.mul_one]; omega) | (refine mul_ok ?_ ?_ <;> omega) | (refine cdiv_ok ?_ ?_ <;> omega) | (simp; done) | fail) [halves_b1, hc1, hct, hfl, hm, -mul_int])
    rw [List.take_length] at e
    exact e
  have hlo : loL st.length ((halv xs).map D.int) = true := lo_ints
  have ht : tupleO [.ref st.length] (st ++ [.lst ((halv xs).map .int)]) = some (.tup ((halv xs).map .int)) := by
    show ((viewL (st ++ [.lst ((halv xs).map .int)]) (.ref st.length)).map D.tup) = _
    simp (disch := first | assumption | omega | (simp only [List.length_cons, List.length_append, List.length_map, List.length_nil, List.length_set, List.length_replicate, rep_length, Nat.zero_add, Nat.mul_one]; omega) | (refine mul_ok ?_ ?_ <;> omega) | (refine cdiv_ok ?_ ?_ <;> omega) | (simp; done) | fail)
  have hlo2 : lo st.length (.tup ((halv xs).map D.int)) = true := hlo
  generalize (halv xs).map D.int = tt at *
  generalize xs.map D.int = xd at *
  simp (disch := first | assumption | omega | (simp only [List.length_cons, List.length_append, List.length_map, List.length_nil, List.length_set, List.length_replicate, rep_length, Nat.zero_add, Nat.mul_one]; omega) | (refine mul_ok ?_ ?_ <;> omega) | (refine cdiv_ok ?_ ?_ <;> omega) | (simp; done) | fail) [f_halves, b_halves, hl1, ht]
theorem abs_nat (d : Int) : (if d < 0 then -d else d) = (d.natAbs : Int) := by split <;> omega
theorem scaled_ok (d : Int) (st : Store) : f_scaled [.int d] st = .ok (.int (scl d)) st := by
  have hab : ∀ q, absO [.int d] q = some (.int (d.natAbs : Nat)) := fun q => by rw [abs_int, abs_nat]
  have hc1 : scaled_c1 [some (.int d), none, none] st = .ok (.lst ((stepsL.filter fun s => decide (s ≤ (d.natAbs : Int))).map .int)) st := by
    refine cIf (enc := D.int) (l := stepsL) (fun s => decide (s ≤ (d.natAbs : Int))) .int (by simp (disch := first | assumption | omega | (simp only [List.length_cons, List.length_append, List.length_map, List.length_nil, List.length_set, List.length_replicate, rep_length, Nat.zero_add, Nat.mul_one]; omega) | (refine mul_ok ?_ ?_ <;> omega) | (refine cdiv_ok ?_ ?_ <;> omega) | (simp; done) | fail); rfl) (fun y hy s1 => ⟨_, rfl, by simp (disch := first | assumption | omega | (simp only [List.length_cons, List.length_append, List.length_map, List.length_nil, List.length_set, List.length_replicate, rep_length, Nat.zero_add, Nat.mul_one]; omega) | (refine mul_ok ?_ ?_ <;> omega) | (refine cdiv_ok ?_ ?_ <;> omega) | (simp; done) | fail) [hab, -abs_int], fun _ => by simp (disch := first | assumption | omega | (simp only [List.length_cons, List.length_append, List.length_map, List.length_nil, List.length_set, List.length_replicate, rep_length, Nat.zero_add, Nat.mul_one]; omega) | (refine mul_ok ?_ ?_ <;> omega) | (refine cdiv_ok ?_ ?_ <;> omega) | (simp; done) | fail)⟩) (fun _ _ => rfl) (by decide)
  have hlen : ((stepsL.filter fun s => decide (s ≤ (d.natAbs : Int))).map D.int).length = mag d.natAbs := by rw [List.length_map]; rfl
  unfold scl
  generalize (stepsL.filter fun s => decide (s ≤ (d.natAbs : Int))).map D.int = zl at *
  by_cases h0 : 0 < d
  · simp (disch := first | assumption | omega | (simp only [List.length_cons, List.length_append, List.length_map, List.length_nil, List.length_set, List.length_replicate, rep_length, Nat.zero_add, Nat.mul_one]; omega) | (refine mul_ok ?_ ?_ <;> omega) | (refine cdiv_ok ?_ ?_ <;> omega) | (simp; done) | fail) [f_scaled, b_scaled, hc1, hlen, h0]
  · simp (disch := first | assumption | omega | (simp only [List.length_cons, List.length_append, List.length_map, List.length_nil, List.length_set, List.length_replicate, rep_length, Nat.zero_add, Nat.mul_one]; omega) | (refine mul_ok ?_ ?_ <;> omega) | (refine cdiv_ok ?_ ?_ <;> omega) | (simp; done) | fail) [f_scaled, b_scaled, hc1, hlen, h0]
theorem cross_ok {xs : List Int} (st : Store) (hl : xs.length ≤ 100) : f_cross [.tup (xs.map .int)] st = .ok (.tup ((crs xs).map .int)) st := by
  have hc2 : ∀ x (s : Store), cross_c2 [some (.tup (xs.map .int)), some (.int x), none] s = .ok (.lst ((xs.map fun o => scl (x - o)).map .int)) s := fun x s => by
    have := cMap (f := itE (varE 0)) (tg := nmT 2) (elt := callE 1 f_scaled (consL (op2 subD (varE 1) (varE 2)) (nilL))) (own := [2]) (ρ := [some (.tup (xs.map .int)), some (.int x), none]) (st := s) (enc := D.int) (l := xs) (fun o => .int (scl (x - o))) (by simp (disch := first | assumption | omega | (simp only [List.length_cons, List.length_append, List.length_map, List.length_nil, List.length_set, List.length_replicate, rep_length, Nat.zero_add, Nat.mul_one]; omega) | (refine mul_ok ?_ ?_ <;> omega) | (refine cdiv_ok ?_ ?_ <;> omega) | (simp; done) | fail)) (fun y hy s1 => ⟨_, rfl, by simp (disch := first | assumption | omega | (simp only [List.length_cons, List.length_append, List.length_map, List.length_nil, List.length_set, List.length_replicate, rep_length, Nat.zero_add, Nat.mul_one]; omega) | (refine mul_ok ?_ ?_ <;> omega) | (refine cdiv_ok ?_ ?_ <;> omega) | (simp; done) | fail) [scaled_ok]⟩) (fun _ _ => rfl) (by omega)
    rw [List.map_map]
    exact this
  have hc1 : cross_c1 [some (.tup (xs.map .int)), none, none] st = .ok (.lst ((crs xs).map .int)) st := by
    have := cMap (f := itE (varE 0)) (tg := nmT 1) (elt := opL sumO (consL (cross_c2) (nilL))) (own := [1]) (ρ := [some (.tup (xs.map .int)), none, none]) (st := st) (enc := D.int) (l := xs) (fun x => .int (Phi scl xs x)) (by simp (disch := first | assumption | omega | (simp only [List.length_cons, List.length_append, List.length_map, List.length_nil, List.length_set, List.length_replicate, rep_length, Nat.zero_add, Nat.mul_one]; omega) | (refine mul_ok ?_ ?_ <;> omega) | (refine cdiv_ok ?_ ?_ <;> omega) | (simp; done) | fail)) (fun y hy s1 => by
      have hs : ∀ q, sumO [.lst ((xs.map fun o => scl (y - o)).map .int)] q = some (.int (Phi scl xs y)) := fun q => sum_ints
      have hc2 := hc2 y
      generalize (xs.map fun o => scl (y - o)).map D.int = zl at *
      exact ⟨_, rfl, by simp (disch := first | assumption | omega | (simp only [List.length_cons, List.length_append, List.length_map, List.length_nil, List.length_set, List.length_replicate, rep_length, Nat.zero_add, Nat.mul_one]; omega) | (refine mul_ok ?_ ?_ <;> omega) | (refine cdiv_ok ?_ ?_ <;> omega) | (simp; done) | fail) [hc2, hs, -sum_lst]⟩) (fun _ _ => rfl) (by omega)
    unfold crs PhiL
    rw [List.map_map]
    exact this
  have hlo : lo st.length (.tup ((crs xs).map D.int)) = true := lo_ints
  generalize (crs xs).map D.int = tt at *
  generalize xs.map D.int = xd at *
  simp (disch := first | assumption | omega | (simp only [List.length_cons, List.length_append, List.length_map, List.length_nil, List.length_set, List.length_replicate, rep_length, Nat.zero_add, Nat.mul_one]; omega) | (refine mul_ok ?_ ?_ <;> omega) | (refine cdiv_ok ?_ ?_ <;> omega) | (simp; done) | fail) [f_cross, b_cross, hc1]
theorem maxT_ints {ns : List Int} {st : Store} (h : 0 < ns.length) : maxTO [.tup (ns.map .int)] st = some (.int (maxI ns)) := by
  rw [maxT_tup, ints_of]
  show (if 0 < ns.length then _ else none) = _
  rw [if_pos h]
theorem sumT_ints {ns : List Int} {st : Store} : sumO [.tup (ns.map .int)] st = some (.int ns.sum) := by rw [sum_tup, ints_of]; rfl
def encT (xs : List Int) (s : Int) : D := .ltp [.int s, .int (hlf xs s), .int (Phi scl xs s)]
theorem triples_is (xs : List Int) : triples (xs.map .int) ((halv xs).map .int) ((crs xs).map .int) = xs.map (encT xs) := by
  refine List.ext_getElem? fun i => ?_
  unfold triples halv crs PhiL
  rw [List.getElem?_map, List.getElem?_map]
  cases h : xs[i]? with
  | none =>
    rw [show ((xs.map D.int).zip (((xs.map (hlf xs)).map D.int).zip ((xs.map (Phi scl xs)).map D.int)))[i]? = none from ?_]
    · rfl
    · rw [List.getElem?_eq_none_iff] at h ⊢
      simp only [List.length_zip, List.length_map]
      omega
  | some s =>
    rw [show ((xs.map D.int).zip (((xs.map (hlf xs)).map D.int).zip ((xs.map (Phi scl xs)).map D.int)))[i]? = some (.int s, .int (hlf xs s), .int (Phi scl xs s)) from ?_]
    · rfl
    · refine List.getElem?_zip_eq_some.mpr ⟨by rw [List.getElem?_map, h]; rfl, List.getElem?_zip_eq_some.mpr ⟨by rw [List.getElem?_map, List.getElem?_map, h]; rfl, by rw [List.getElem?_map, List.getElem?_map, h]; rfl⟩⟩
theorem hlf_strict {xs : List Int} {s t : Int} (hs : s ∈ xs) (l : t < s) : hlf xs t < hlf xs s := by
  have := sg_strict xs hs l
  unfold hlf
  omega
abbrev E22 (a0 a1 a2 a3 : Option D) (xs : List Int) (x8 x9 x10 x11 x12 x13 : Option D) : Env := [a0, a1, a2, a3, some (.tup (xs.map .int)), some (.int (xs.length : Nat)), some (.tup ((halv xs).map .int)), some (.tup ((crs xs).map .int)), x8, x9, x10, x11, x12, x13, none, none, none, none]
theorem b3_ok22 {a0 a1 a2 a3 x12 x13 : Option D} {xs : List Int} {s o : Int} (st : Store) (hs : s ∈ xs) (ho : o ∈ xs) (k) :
    (tgtO (tupT (consT (nmT 11) (consT (nmT 12) (consT (nmT 13) (nilT)))) (encT xs o) (E22 a0 a1 a2 a3 xs (some (.int s)) (some (.int (hlf xs s))) (some (.int (Phi scl xs s))) none x12 x13)) fun ρ' => turnO [11] (law_k22_b3 ρ' st) k) =
      k (E22 a0 a1 a2 a3 xs (some (.int s)) (some (.int (hlf xs s))) (some (.int (Phi scl xs s))) none (some (.int (hlf xs o))) (some (.int (Phi scl xs o)))) st := by
  have hne : ∀ (a b : Int) q, neD (.tup [.int a, .int b]) (.tup [.int a, .int b]) q = some (.bl false) := fun a b q => by simp
  unfold encT E22
  generalize xs.map D.int = d1 at *
  generalize (halv xs).map D.int = d2 at *
  generalize (crs xs).map D.int = d3 at *
  rcases Int.lt_trichotomy s o with h | h | h
  · have h1 : ¬ o < s := by omega
    have h2 : ¬ s = o := by omega
    simp (disch := first | assumption | omega | (simp only [List.length_cons, List.length_append, List.length_map, List.length_nil, List.length_set, List.length_replicate, rep_length, Nat.zero_add, Nat.mul_one]; omega) | (refine mul_ok ?_ ?_ <;> omega) | (refine cdiv_ok ?_ ?_ <;> omega) | (simp; done) | fail) [law_k22_b3, h1, h2]
  · subst h
    have h1 : ¬ s < s := by omega
    simp (disch := first | assumption | omega | (simp only [List.length_cons, List.length_append, List.length_map, List.length_nil, List.length_set, List.length_replicate, rep_length, Nat.zero_add, Nat.mul_one]; omega) | (refine mul_ok ?_ ?_ <;> omega) | (refine cdiv_ok ?_ ?_ <;> omega) | (simp; done) | fail) [law_k22_b3, hne]
  · have m1 := hlf_strict hs h
    have m2 := phi_mono scl_mono xs (s := s) (t := o) (by omega)
    have h2 : ¬ s = o := by omega
    have h3 : ¬ hlf xs s ≤ hlf xs o := by omega
    have h4 : ¬ Phi scl xs s < Phi scl xs o := by omega
    simp (disch := first | assumption | omega | (simp only [List.length_cons, List.length_append, List.length_map, List.length_nil, List.length_set, List.length_replicate, rep_length, Nat.zero_add, Nat.mul_one]; omega) | (refine mul_ok ?_ ?_ <;> omega) | (refine cdiv_ok ?_ ?_ <;> omega) | (simp; done) | fail) [law_k22_b3, h, h2, h3, h4]
theorem l3_ok22 {a0 a1 a2 a3 x12 x13 : Option D} {xs : List Int} {s : Int} (st : Store) (hs : s ∈ xs) :
    ∃ y12 y13, law_k22_l3 (E22 a0 a1 a2 a3 xs (some (.int s)) (some (.int (hlf xs s))) (some (.int (Phi scl xs s))) none x12 x13) st = .next (E22 a0 a1 a2 a3 xs (some (.int s)) (some (.int (hlf xs s))) (some (.int (Phi scl xs s))) none y12 y13) st := by
  obtain ⟨ρ', st', ⟨y12, y13, rfl, rfl⟩, e⟩ := fAll (f := zip3E (consL (varE 4) (consL (varE 6) (consL (varE 7) (nilL))))) (tg := tupT (consT (nmT 11) (consT (nmT 12) (consT (nmT 13) (nilT))))) (body := law_k22_b3) (ks := [11]) (ρ := E22 a0 a1 a2 a3 xs (some (.int s)) (some (.int (hlf xs s))) (some (.int (Phi scl xs s))) none x12 x13) (st := st) (s0 := st) (enc := encT xs) (l := xs)
    (fun i ρ s' => ∃ y12 y13, ρ = E22 a0 a1 a2 a3 xs (some (.int s)) (some (.int (hlf xs s))) (some (.int (Phi scl xs s))) none y12 y13 ∧ s' = st) (by simp (disch := first | assumption | omega | (simp only [List.length_cons, List.length_append, List.length_map, List.length_nil, List.length_set, List.length_replicate, rep_length, Nat.zero_add, Nat.mul_one]; omega) | (refine mul_ok ?_ ?_ <;> omega) | (refine cdiv_ok ?_ ?_ <;> omega) | (simp; done) | fail) [triples_is]) ⟨_, _, rfl, rfl⟩ (fun i o ρ s' ho ⟨y12, y13, e1, e2⟩ => by
      subst e1 e2
      exact ⟨_, _, ⟨_, _, rfl, rfl⟩, b3_ok22 _ hs (List.mem_of_getElem? ho)⟩)
  exact ⟨y12, y13, e⟩
theorem l2_ok22 {a0 a1 a2 a3 x12 x13 : Option D} {xs : List Int} (st : Store) :
    ∃ y12 y13, law_k22_l2 (E22 a0 a1 a2 a3 xs none none none none x12 x13) st = .next (E22 a0 a1 a2 a3 xs none none none none y12 y13) st := by
  obtain ⟨ρ', st', ⟨y12, y13, rfl, rfl⟩, e⟩ := fAll (f := zip3E (consL (varE 4) (consL (varE 6) (consL (varE 7) (nilL))))) (tg := tupT (consT (nmT 8) (consT (nmT 9) (consT (nmT 10) (nilT))))) (body := law_k22_b2) (ks := [8, 9, 10, 11]) (ρ := E22 a0 a1 a2 a3 xs none none none none x12 x13) (st := st) (s0 := st) (enc := encT xs) (l := xs)
    (fun i ρ s' => ∃ y12 y13, ρ = E22 a0 a1 a2 a3 xs none none none none y12 y13 ∧ s' = st) (by simp (disch := first | assumption | omega | (simp only [List.length_cons, List.length_append, List.length_map, List.length_nil, List.length_set, List.length_replicate, rep_length, Nat.zero_add, Nat.mul_one]; omega) | (refine mul_ok ?_ ?_ <;> omega) | (refine cdiv_ok ?_ ?_ <;> omega) | (simp; done) | fail) [triples_is]) ⟨_, _, rfl, rfl⟩ (fun i o ρ s' ho ⟨y12, y13, e1, e2⟩ => by
      subst e1 e2
      obtain ⟨z12, z13, h⟩ := l3_ok22 (a0 := a0) (a1 := a1) (a2 := a2) (a3 := a3) (x12 := y12) (x13 := y13) (xs := xs) (s := o) s' (List.mem_of_getElem? ho)
      refine ⟨_, _, ⟨z12, z13, rfl, rfl⟩, fun k => ?_⟩
      unfold encT law_k22_b2
      unfold E22 at *
      generalize xs.map D.int = d1 at *
      generalize (halv xs).map D.int = d2 at *
      generalize (crs xs).map D.int = d3 at *
      simp (disch := first | assumption | omega | (simp only [List.length_cons, List.length_append, List.length_map, List.length_nil, List.length_set, List.length_replicate, rep_length, Nat.zero_add, Nat.mul_one]; omega) | (refine mul_ok ?_ ?_ <;> omega) | (refine cdiv_ok ?_ ?_ <;> omega) | (simp; done) | fail) [h])
  exact ⟨y12, y13, e⟩
theorem c3_ok22 {a0 a1 a2 a3 a5 a6 a7 a8 a9 a10 a11 a12 a13 a14 a15 : Option D} {xs : List Int} (st : Store) (hl : xs.length ≤ 100) : law_k22_c3 [a0, a1, a2, a3, some (.tup (xs.map .int)), a5, a6, a7, a8, a9, a10, a11, a12, a13, a14, a15, none, none] st = .ok (.lst ((xs.map fun s => 0 - s).map .int)) st := by
  have := cMap (f := itE (varE 4)) (tg := nmT 17) (elt := op2 subD (conE (.int 0)) (varE 17)) (own := [17]) (ρ := [a0, a1, a2, a3, some (.tup (xs.map .int)), a5, a6, a7, a8, a9, a10, a11, a12, a13, a14, a15, none, none]) (st := st) (enc := D.int) (l := xs) (fun s => .int (0 - s)) (by simp (disch := first | assumption | omega | (simp only [List.length_cons, List.length_append, List.length_map, List.length_nil, List.length_set, List.length_replicate, rep_length, Nat.zero_add, Nat.mul_one]; omega) | (refine mul_ok ?_ ?_ <;> omega) | (refine cdiv_ok ?_ ?_ <;> omega) | (simp; done) | fail)) (fun y hy s1 => ⟨_, rfl, by simp (disch := first | assumption | omega | (simp only [List.length_cons, List.length_append, List.length_map, List.length_nil, List.length_set, List.length_replicate, rep_length, Nat.zero_add, Nat.mul_one]; omega) | (refine mul_ok ?_ ?_ <;> omega) | (refine cdiv_ok ?_ ?_ <;> omega) | (simp; done) | fail)⟩) (fun _ _ => rfl) (by omega)
  rw [List.map_map]
  exact this
theorem c6_ok22 {a0 a1 a2 a3 a5 a6 a7 a8 a9 a10 a11 a12 a13 a14 a15 : Option D} {xs : List Int} (st : Store) (hl : xs.length ≤ 100) : law_k22_c6 [a0, a1, a2, a3, some (.tup (xs.map .int)), a5, a6, a7, a8, a9, a10, a11, a12, a13, a14, a15, none, none] st = .ok (.lst ((xs.map fun s => s + 130).map .int)) st := by
  have := cMap (f := itE (varE 4)) (tg := nmT 17) (elt := op2 addD (varE 17) (conE (.int 130))) (own := [17]) (ρ := [a0, a1, a2, a3, some (.tup (xs.map .int)), a5, a6, a7, a8, a9, a10, a11, a12, a13, a14, a15, none, none]) (st := st) (enc := D.int) (l := xs) (fun s => .int (s + 130)) (by simp (disch := first | assumption | omega | (simp only [List.length_cons, List.length_append, List.length_map, List.length_nil, List.length_set, List.length_replicate, rep_length, Nat.zero_add, Nat.mul_one]; omega) | (refine mul_ok ?_ ?_ <;> omega) | (refine cdiv_ok ?_ ?_ <;> omega) | (simp; done) | fail)) (fun y hy s1 => ⟨_, rfl, by simp (disch := first | assumption | omega | (simp only [List.length_cons, List.length_append, List.length_map, List.length_nil, List.length_set, List.length_replicate, rep_length, Nat.zero_add, Nat.mul_one]; omega) | (refine mul_ok ?_ ?_ <;> omega) | (refine cdiv_ok ?_ ?_ <;> omega) | (simp; done) | fail)⟩) (fun _ _ => rfl) (by omega)
  rw [List.map_map]
  exact this
theorem c4_ok22 {a0 a1 a2 a3 a4 a7 a8 a9 a10 a11 a12 a13 a14 a15 : Option D} {n : Nat} {ys : List Int} (st : Store) (hn : n ≤ 100) (hl : ys.length ≤ 100) : law_k22_c4 [a0, a1, a2, a3, a4, some (.int (n : Nat)), some (.tup (ys.map .int)), a7, a8, a9, a10, a11, a12, a13, a14, a15, none, none] st = .ok (.lst ((ys.map fun s => 2 * (n : Int) - 2 - s).map .int)) st := by
  have hm : ∀ q, mulD (.int 2) (.int (n : Int)) q = some (.int (2 * (n : Int))) := fun q => mul_int (mul_ok (by omega) (by omega))
  have := cMap (f := itE (varE 6)) (tg := nmT 12) (elt := op2 subD (op2 subD (op2 mulD (conE (.int 2)) (varE 5)) (conE (.int 2))) (varE 12)) (own := [12]) (ρ := [a0, a1, a2, a3, a4, some (.int (n : Nat)), some (.tup (ys.map .int)), a7, a8, a9, a10, a11, a12, a13, a14, a15, none, none]) (st := st) (enc := D.int) (l := ys) (fun s => .int (2 * (n : Int) - 2 - s)) (by simp (disch := first | assumption | omega | (simp only [List.length_cons, List.length_append, List.length_map, List.length_nil, List.length_set, List.length_replicate, rep_length, Nat.zero_add, Nat.mul_one]; omega) | (refine mul_ok ?_ ?_ <;> omega) | (refine cdiv_ok ?_ ?_ <;> omega) | (simp; done) | fail)) (fun y hy s1 => ⟨_, rfl, by simp (disch := first | assumption | omega | (simp only [List.length_cons, List.length_append, List.length_map, List.length_nil, List.length_set, List.length_replicate, rep_length, Nat.zero_add, Nat.mul_one]; omega) | (refine mul_ok ?_ ?_ <;> omega) | (refine cdiv_ok ?_ ?_ <;> omega) | (simp; done) | fail) [hm, -mul_int]⟩) (fun _ _ => rfl) (by omega)
  rw [List.map_map]
  exact this
theorem c5_ok22 {a0 a1 a2 a3 a4 a5 a6 a8 a9 a10 a11 a12 a13 a14 a15 : Option D} {ys : List Int} (st : Store) (hl : ys.length ≤ 100) : law_k22_c5 [a0, a1, a2, a3, a4, a5, a6, some (.tup (ys.map .int)), a8, a9, a10, a11, a12, a13, a14, a15, none, none] st = .ok (.lst ((ys.map fun s => 0 - s).map .int)) st := by
  have := cMap (f := itE (varE 7)) (tg := nmT 13) (elt := op2 subD (conE (.int 0)) (varE 13)) (own := [13]) (ρ := [a0, a1, a2, a3, a4, a5, a6, some (.tup (ys.map .int)), a8, a9, a10, a11, a12, a13, a14, a15, none, none]) (st := st) (enc := D.int) (l := ys) (fun s => .int (0 - s)) (by simp (disch := first | assumption | omega | (simp only [List.length_cons, List.length_append, List.length_map, List.length_nil, List.length_set, List.length_replicate, rep_length, Nat.zero_add, Nat.mul_one]; omega) | (refine mul_ok ?_ ?_ <;> omega) | (refine cdiv_ok ?_ ?_ <;> omega) | (simp; done) | fail)) (fun y hy s1 => ⟨_, rfl, by simp (disch := first | assumption | omega | (simp only [List.length_cons, List.length_append, List.length_map, List.length_nil, List.length_set, List.length_replicate, rep_length, Nat.zero_add, Nat.mul_one]; omega) | (refine mul_ok ?_ ?_ <;> omega) | (refine cdiv_ok ?_ ?_ <;> omega) | (simp; done) | fail)⟩) (fun _ _ => rfl) (by omega)
  rw [List.map_map]
  exact this
theorem ints_list : ∀ {ds : List D}, (∀ d ∈ ds, ∃ i, d = .int i) → ∃ is : List Int, ds = is.map .int
  | [], _ => ⟨[], rfl⟩
  | d :: ds, h => by
    obtain ⟨i, rfl⟩ := h d (by simp)
    obtain ⟨is, rfl⟩ := ints_list fun d hd => h d (List.mem_cons_of_mem _ hd)
    exact ⟨i :: is, rfl⟩
theorem c1_ok22 {ns : List Int} {c : Cell} {n0 : Nat} {a2 a12 a13 : Option D} (hns : ns.length ≤ 63) (ht : Tn n0 c) (hn0 : n0 ≤ 500000) :
    ∃ (bs : List Int) (c' : Cell), law_k22_c1 [some (.scr ns), some (.ref 0), a2, none, none, none, none, none, none, none, none, none, a12, a13, none, none, none, none] [c] = .ok (.lst (bs.map .int)) [c'] ∧ bs.length = 4 ∧ Tn (n0 + 4) c' := by
  obtain ⟨ds, c', e, h1, h2, h3⟩ := cDraw (l' := rangeD 0 4) (tg := nmT 16) (elt := op2 subD (op2 mulD (callE 3 f_l_draw_k01 (consL (varE 0) (consL (varE 1) (consL (conE (.int 400)) (nilL))))) (conE (.int 10))) (conE (.int 2000))) (r := []) (fun d => ∃ i : Int, d = .int i) (fun i c => Tn (n0 + i) c)
    (ρw := [some (.scr ns), some (.ref 0), a2, none, none, none, none, none, none, none, none, none, a12, a13, none, none, none, none]) (rangeD 0 4) 0 c [] ht (fun d hd => by cases hd) (fun j x c s1 hx hp => by
      obtain ⟨hi', rfl⟩ := range_at hx
      obtain ⟨i, c2, ei, i0, i1, t2⟩ := draw_ok (r := [s1]) (m := 400) hns hp (by omega) (by decide)
      have hm : ∀ q, mulD (.int i) (.int 10) q = some (.int (i * 10)) := fun q => mul_int (mul_ok (by omega) (by omega))
      exact ⟨.int (i * 10 - 2000), c2, _, rfl, by simp (disch := first | assumption | omega | (simp only [List.length_cons, List.length_append, List.length_map, List.length_nil, List.length_set, List.length_replicate, rep_length, Nat.zero_add, Nat.mul_one]; omega) | (refine mul_ok ?_ ?_ <;> omega) | (refine cdiv_ok ?_ ?_ <;> omega) | (simp; done) | fail) [ei, hm, -mul_int], ⟨_, rfl⟩, t2.mono (by omega)⟩) (fun d ⟨i, hd⟩ => by rw [hd]; rfl) (fun m c h => h.lo) (by simp) c
  obtain ⟨bs, rfl⟩ := ints_list h1
  refine ⟨bs, c', ?_, by simpa using h2, h3.mono (by simp)⟩
  unfold law_k22_c1
  rw [ap_comp]
  simp (disch := first | assumption | omega | (simp only [List.length_cons, List.length_append, List.length_map, List.length_nil, List.length_set, List.length_replicate, rep_length, Nat.zero_add, Nat.mul_one]; omega) | (refine mul_ok ?_ ?_ <;> omega) | (refine cdiv_ok ?_ ?_ <;> omega) | (simp; done) | fail)
  exact e
theorem c2_ok22 {ns : List Int} {c : Cell} {n0 : Nat} {a2 a12 a13 : Option D} {bs : List Int} (hns : ns.length ≤ 63) (ht : Tn n0 c) (hn0 : n0 ≤ 500000) (hb : bs.length = 7) :
    ∃ (xs : List Int) (c' : Cell), law_k22_c2 [some (.scr ns), some (.ref 0), a2, some (.lst (bs.map .int)), none, none, none, none, none, none, none, none, a12, a13, none, none, none, none] [c] = .ok (.lst (xs.map .int)) [c'] ∧ 1 ≤ xs.length ∧ xs.length ≤ 9 ∧ Tn (n0 + 12) c' := by
  obtain ⟨m, c1, em, m0, m1, t1⟩ := draw_ok (r := []) (m := 9) hns ht (by omega) (by decide)
  obtain ⟨ds, c', e, h1, h2, h3⟩ := cDraw (l' := rangeD 0 (1 + m).toNat) (tg := nmT 16) (elt := callE 3 f_l_pick (consL (varE 0) (consL (varE 1) (consL (varE 3) (nilL))))) (r := []) (fun d => ∃ i : Int, d = .int i) (fun i c => Tn (n0 + 1 + i) c)
    (ρw := [some (.scr ns), some (.ref 0), a2, some (.lst (bs.map .int)), none, none, none, none, none, none, none, none, a12, a13, none, none, none, none]) (rangeD 0 (1 + m).toNat) 0 c1 [] t1 (fun d hd => by cases hd) (fun j x c s1 hx hp => by
      obtain ⟨hi', rfl⟩ := range_at hx
      obtain ⟨d, c2, hd, ep, t2⟩ := pick_ok (r := [s1]) (xs := bs.map .int) hns hp (by omega) (by rw [List.length_map]; omega) lo_ints
      obtain ⟨i, _, hd⟩ := List.mem_map.mp hd
      refine ⟨d, c2, _, rfl, ?_, ⟨i, hd.symm⟩, t2.mono (by omega)⟩
      generalize bs.map D.int = bd at *
      simp (disch := first | assumption | omega | (simp only [List.length_cons, List.length_append, List.length_map, List.length_nil, List.length_set, List.length_replicate, rep_length, Nat.zero_add, Nat.mul_one]; omega) | (refine mul_ok ?_ ?_ <;> omega) | (refine cdiv_ok ?_ ?_ <;> omega) | (simp; done) | fail) [ep]) (fun d ⟨i, hd⟩ => by rw [hd]; rfl) (fun m c h => h.lo) (by simp; omega) c1
  obtain ⟨xs, rfl⟩ := ints_list h1
  have hl : xs.length = (1 + m).toNat := by simpa using h2
  refine ⟨xs, c', ?_, by omega, by omega, h3.mono (by simp; omega)⟩
  unfold law_k22_c2
  rw [ap_comp]
  generalize bs.map D.int = bd at *
  simp (disch := first | assumption | omega | (simp only [List.length_cons, List.length_append, List.length_map, List.length_nil, List.length_set, List.length_replicate, rep_length, Nat.zero_add, Nat.mul_one]; omega) | (refine mul_ok ?_ ?_ <;> omega) | (refine cdiv_ok ?_ ?_ <;> omega) | (simp; done) | fail) [em]
  exact e
theorem halv_neg (xs : List Int) : halv (xs.map fun s => 0 - s) = (halv xs).map fun h => 2 * (xs.length : Int) - 2 - h := by
  unfold halv
  rw [List.map_map, List.map_map]
  refine List.map_congr_left fun s _ => ?_
  show Phi sg (xs.map fun s => 0 - s) (0 - s) + (xs.map fun s => 0 - s).length - 1 = 2 * (xs.length : Int) - 2 - (Phi sg xs s + xs.length - 1)
  rw [phi_neg sg_odd, List.length_map]
  omega
theorem crs_neg (xs : List Int) : crs (xs.map fun s => 0 - s) = (crs xs).map fun h => 0 - h := by
  unfold crs PhiL
  rw [List.map_map, List.map_map]
  refine List.map_congr_left fun s _ => ?_
  show Phi scl (xs.map fun s => 0 - s) (0 - s) = 0 - Phi scl xs s
  rw [phi_neg scl_odd]
  omega
theorem halv_rev (xs : List Int) : halv xs.reverse = (halv xs).reverse := by
  unfold halv
  rw [← List.map_reverse]
  refine List.map_congr_left fun s _ => ?_
  unfold hlf
  rw [phi_perm (List.reverse_perm xs), List.length_reverse]
theorem crs_rev (xs : List Int) : crs xs.reverse = (crs xs).reverse := by
  unfold crs PhiL
  rw [← List.map_reverse]
  exact List.map_congr_left fun s _ => phi_perm (List.reverse_perm xs) s
theorem halv_more (xs : List Int) : halv (xs.map fun s => s + 130) = halv xs := by
  unfold halv
  rw [List.map_map]
  refine List.map_congr_left fun s _ => ?_
  show Phi sg (xs.map fun s => s + 130) (s + 130) + (xs.map fun s => s + 130).length - 1 = _
  rw [phi_shift, List.length_map]
  rfl
theorem crs_more (xs : List Int) : crs (xs.map fun s => s + 130) = crs xs := by
  unfold crs PhiL
  rw [List.map_map]
  exact List.map_congr_left fun s _ => phi_shift 130 xs s
theorem crs_two (a b : Int) : crs [a, b] = [scl (a - b), scl (b - a)] := by
  have h0 : scl 0 = 0 := by decide
  unfold crs PhiL Phi
  simp only [List.map_cons, List.map_nil, List.sum_cons, List.sum_nil, Int.sub_self, h0]
  simp
theorem halv_sum (xs : List Int) : (halv xs).sum = (xs.length : Int) * ((xs.length : Int) - 1) := by
  have h1 := sum_odd sg_odd xs
  have e : (halv xs).sum = (xs.map fun s => Phi sg xs s + ((xs.length : Int) - 1)).sum := by
    unfold halv
    congr 1
    refine List.map_congr_left fun s _ => ?_
    unfold hlf
    omega
  rw [e, sum_add, sum_const, show (xs.map fun x => Phi sg xs x).sum = (PhiL sg xs).sum from rfl, h1, Int.zero_add]
theorem halv_bd {xs : List Int} (h : 0 < xs.length) : 0 ≤ minI (halv xs) ∧ minI (halv xs) ≤ maxI (halv xs) ∧ maxI (halv xs) ≤ 2 * (xs.length : Int) - 2 := by
  have hl : 0 < (halv xs).length := by unfold halv; rw [List.length_map]; exact h
  obtain ⟨a1, a2⟩ := minI_of hl
  obtain ⟨b1, b2⟩ := maxI_of hl
  have hb : ∀ y ∈ halv xs, 0 ≤ y ∧ y ≤ 2 * (xs.length : Int) - 2 := fun y hy => by
    obtain ⟨s, hs, rfl⟩ := List.mem_map.mp hy
    have h1 := sg_top xs hs
    have h2 := sg_bot xs hs
    unfold hlf
    omega
  exact ⟨(hb _ a1).1, a2 _ b1, (hb _ b1).2⟩
theorem true_k22 (ns : List Int) (hns : ns.length ≤ 63) : f_law_k22 [.scr ns] [] = .ok (.bl true) [] := by
  obtain ⟨ρ', st', ⟨c', x12, x13, rfl, rfl, hc'⟩, e⟩ := fAll (f := rng1E (conE (.int 8))) (tg := nmT 2) (body := law_k22_b1) (ks := [2, 3, 4, 5, 6, 7, 8, 9, 10, 11, 14, 15]) (ρ := [some (.scr ns), some (.ref 0), none, none, none, none, none, none, none, none, none, none, none, none, none, none, none, none]) (st := [.lst []]) (s0 := [.lst []])
    (enc := rgE 0) (l := List.range 8) (fun i ρ s' => ∃ c' x12 x13, ρ = [some (.scr ns), some (.ref 0), none, none, none, none, none, none, none, none, none, none, x12, x13, none, none, none, none] ∧ s' = [c'] ∧ Tn (i * 100) c') (by simp (disch := first | assumption | omega | (simp only [List.length_cons, List.length_append, List.length_map, List.length_nil, List.length_set, List.length_replicate, rep_length, Nat.zero_add, Nat.mul_one]; omega) | (refine mul_ok ?_ ?_ <;> omega) | (refine cdiv_ok ?_ ?_ <;> omega) | (simp; done) | fail); rfl) ⟨_, none, none, rfl, rfl, [], rfl, by simp⟩ (fun i x ρ s' hx ⟨c', x12, x13, e1, e2, hc'⟩ => by
      obtain ⟨rfl, hi⟩ := range_get hx
      subst e1 e2
      obtain ⟨bs, c1, hc1, hb, t1⟩ := c1_ok22 (a2 := some (rgE 0 x)) (a12 := x12) (a13 := x13) hns hc' (by omega)
      have hadd : ∀ q, addD (.lst (bs.map .int)) (.lst [.int 50, .int 420, .int (-100)]) q = some (.lst ((bs ++ [50, 420, -100]).map .int)) := fun q => by
        rw [add_lst (by rw [List.length_map, hb]; decide), List.map_append]
        rfl
      obtain ⟨xs, c2, hc2, x1, x9, t2⟩ := c2_ok22 (bs := bs ++ [50, 420, -100]) (a2 := some (rgE 0 x)) (a12 := x12) (a13 := x13) hns t1 (by omega) (by simp [hb])
      have htu : ∀ (zs : List Int) q, tupleO [.lst (zs.map .int)] q = some (.tup (zs.map .int)) := fun _ _ => rfl
      have hlen : ∀ q, lenO [.tup (xs.map .int)] q = some (.int (xs.length : Nat)) := fun q => by rw [len_tup, List.length_map]
      have f1 := fun q => halves_ok (xs := xs) q (by omega)
      have f2 := fun q => cross_ok (xs := xs) q (by omega)
      have hhl : (halv xs).length = xs.length := List.length_map ..
      have hcl : (crs xs).length = xs.length := List.length_map ..
      have s1 : ∀ q, sumO [.tup ((halv xs).map .int)] q = some (.int ((xs.length : Int) * ((xs.length : Int) - 1))) := fun q => by rw [sumT_ints, halv_sum]
      have s2 : ∀ q, sumO [.tup ((crs xs).map .int)] q = some (.int 0) := fun q => by rw [sumT_ints]; exact congrArg some (congrArg D.int (sum_odd scl_odd xs))
      have s3 : ∀ q, mulD (.int (xs.length : Nat)) (.int ((xs.length : Int) - 1)) q = some (.int ((xs.length : Int) * ((xs.length : Int) - 1))) := fun q => mul_int (mul_ok (by omega) (by omega))
      have s4 : ∀ q, mulD (.int 2) (.int (xs.length : Nat)) q = some (.int (2 * (xs.length : Int))) := fun q => mul_int (mul_ok (by omega) (by omega))
      have s5 : ∀ q, minTO [.tup ((halv xs).map .int)] q = some (.int (minI (halv xs))) := fun q => minT_ints (by omega)
      have s6 : ∀ q, maxTO [.tup ((halv xs).map .int)] q = some (.int (maxI (halv xs))) := fun q => maxT_ints (by omega)
      obtain ⟨b1, b2, b3⟩ := halv_bd (xs := xs) (by omega)
      obtain ⟨y12, y13, hl2⟩ := l2_ok22 (a0 := some (.scr ns)) (a1 := some (.ref 0)) (a2 := some (rgE 0 x)) (a3 := some (.lst ((bs ++ [50, 420, -100]).map .int))) (x12 := x12) (x13 := x13) (xs := xs) [c2]
      have k3 := fun a14 a15 s => c3_ok22 (a0 := some (.scr ns)) (a1 := some (.ref 0)) (a2 := some (rgE 0 x)) (a3 := some (.lst ((bs ++ [50, 420, -100]).map .int))) (a5 := some (.int (xs.length : Nat))) (a6 := some (.tup ((halv xs).map .int))) (a7 := some (.tup ((crs xs).map .int))) (a8 := none) (a9 := none) (a10 := none) (a11 := none) (a12 := y12) (a13 := y13) (a14 := a14) (a15 := a15) (xs := xs) s (by omega)
      have k6 := fun a14 a15 s => c6_ok22 (a0 := some (.scr ns)) (a1 := some (.ref 0)) (a2 := some (rgE 0 x)) (a3 := some (.lst ((bs ++ [50, 420, -100]).map .int))) (a5 := some (.int (xs.length : Nat))) (a6 := some (.tup ((halv xs).map .int))) (a7 := some (.tup ((crs xs).map .int))) (a8 := none) (a9 := none) (a10 := none) (a11 := none) (a12 := y12) (a13 := y13) (a14 := a14) (a15 := a15) (xs := xs) s (by omega)
      have k4 := fun a14 a15 s => c4_ok22 (a0 := some (.scr ns)) (a1 := some (.ref 0)) (a2 := some (rgE 0 x)) (a3 := some (.lst ((bs ++ [50, 420, -100]).map .int))) (a4 := some (.tup (xs.map .int))) (a7 := some (.tup ((crs xs).map .int))) (a8 := none) (a9 := none) (a10 := none) (a11 := none) (a12 := y12) (a13 := y13) (a14 := a14) (a15 := a15) (n := xs.length) (ys := halv xs) s (by omega) (by omega)
      have k5 := fun a14 a15 s => c5_ok22 (a0 := some (.scr ns)) (a1 := some (.ref 0)) (a2 := some (rgE 0 x)) (a3 := some (.lst ((bs ++ [50, 420, -100]).map .int))) (a4 := some (.tup (xs.map .int))) (a5 := some (.int (xs.length : Nat))) (a6 := some (.tup ((halv xs).map .int))) (a8 := none) (a9 := none) (a10 := none) (a11 := none) (a12 := y12) (a13 := y13) (a14 := a14) (a15 := a15) (ys := crs xs) s (by omega)
      have g1 := fun q => halves_ok (xs := xs.map fun s => 0 - s) q (by rw [List.length_map]; omega)
      have g2 := fun q => cross_ok (xs := xs.map fun s => 0 - s) q (by rw [List.length_map]; omega)
      rw [halv_neg] at g1
      rw [crs_neg] at g2
      have g3 := fun q => halves_ok (xs := xs.reverse) q (by rw [List.length_reverse]; omega)
      have g4 := fun q => cross_ok (xs := xs.reverse) q (by rw [List.length_reverse]; omega)
      rw [halv_rev] at g3
      rw [crs_rev] at g4
      have g5 := fun q => halves_ok (xs := xs.map fun s => s + 130) q (by rw [List.length_map]; omega)
      have g6 := fun q => cross_ok (xs := xs.map fun s => s + 130) q (by rw [List.length_map]; omega)
      rw [halv_more] at g5
      rw [crs_more] at g6
      have rv : ∀ (zs : List Int) q, revD (.tup (zs.map .int)) q = some (.tup (zs.reverse.map .int)) := fun zs q => by rw [rev_tup, List.map_reverse]
      have tu1 := htu xs
      have tu2 := htu (xs.map fun s => 0 - s)
      have tu3 := htu ((halv xs).map fun h => 2 * (xs.length : Int) - 2 - h)
      have tu4 := htu ((crs xs).map fun h => 0 - h)
      have tu5 := htu (xs.map fun s => s + 130)
      have rv1 := rv xs
      have rv2 := rv (halv xs)
      have rv3 := rv (crs xs)
      have cl : ∀ zs : List Int, zs.length ≤ 1000000 → clean 10 (.tup (zs.map D.int)) = true := fun zs h => clean_tupI (k := 8) h
      have cl2 : ∀ zs ys : List Int, zs.length ≤ 1000000 → ys.length ≤ 1000000 → clean 10 (.tup [.tup (zs.map D.int), .tup (ys.map D.int)]) = true := fun zs ys h1 h2 => by
        show (clean 9 (.tup (zs.map D.int)) && (clean 9 (.tup (ys.map D.int)) && true) && _) = true
        rw [clean_tupI (k := 7) h1, clean_tupI (k := 7) h2]
        rfl
      have m1 := same_ok 10 _ (cl ((halv xs).map fun h => 2 * (xs.length : Int) - 2 - h) (by rw [List.length_map]; omega))
      have m2 := same_ok 10 _ (cl ((crs xs).map fun h => 0 - h) (by rw [List.length_map]; omega))
      have m3 := same_ok 10 _ (cl2 (halv xs).reverse (crs xs).reverse (by rw [List.length_reverse]; omega) (by rw [List.length_reverse]; omega))
      have m4 := same_ok 10 _ (cl2 (halv xs) (crs xs) (by omega) (by omega))
      obtain ⟨a, c3, ea, a0, a1, t3⟩ := draw_ok (r := []) (m := 5000) hns t2 (by omega) (by decide)
      obtain ⟨b, c4, eb, b0, b1', t4⟩ := draw_ok (r := []) (m := 5000) hns t3 (by omega) (by decide)
      have g7 := fun q => cross_ok (xs := [a, b]) q (by simp)
      rw [crs_two] at g7
      have g7 : ∀ q, f_cross [.tup [.int a, .int b]] q = .ok (.tup [.int (scl (a - b)), .int (scl (b - a))]) q := g7
      have m5 := same_ok 10 (.tup [.int (scl (a - b)), .int (scl (b - a))]) rfl
      have p1 := scl_odd a
      have p2 := scl_pos a0
      have p3 := scl_pos b0
      have p4 := scl_mono a (a + b) (by omega)
      have p5 := scl_mono b (a + b) (by omega)
      have p6 := scl_le (a + b)
      have p7 : a < b → ¬ scl b < scl a := fun h => by have := scl_mono a b (by omega); omega
      have q1 := fun q => scaled_ok a q
      have q2 := fun q => scaled_ok b q
      have q3 := fun q => scaled_ok (a + b) q
      have q4 := fun q => scaled_ok (-a) q
      have q5 := fun q => scaled_ok (a - b) q
      have q6 := fun q => scaled_ok (b - a) q
      rw [p1] at q4
      have mx : ∀ q, ∃ z, maxO [.int (scl a), .int (scl b)] q = some (.int z) ∧ 0 ≤ z ∧ z ≤ scl (a + b) := fun q => by
        rw [max_two]
        refine ⟨_, rfl, ?_, ?_⟩ <;> split <;> omega
      obtain ⟨z, hz0⟩ : ∃ z : Int, z = if scl b > scl a then scl b else scl a := ⟨_, rfl⟩
      have hmx : ∀ q, maxO [.int (scl a), .int (scl b)] q = some (.int z) := fun q => by rw [max_two, hz0]
      have hz1 : 0 ≤ z := by rw [hz0]; split <;> omega
      have hz2 : z ≤ scl (a + b) := by rw [hz0]; split <;> omega
      clear mx hz0
      refine ⟨_, _, ⟨c4, y12, y13, rfl, rfl, t4.mono (by omega)⟩, fun k => ?_⟩
      unfold E22 at hl2
      generalize ((halv xs).map fun h => 2 * (xs.length : Int) - 2 - h).map D.int = v1 at *
      generalize ((crs xs).map fun h => 0 - h).map D.int = v2 at *
      generalize (halv xs).reverse.map D.int = v3 at *
      generalize (crs xs).reverse.map D.int = v4 at *
      generalize (xs.map fun s => 0 - s).map D.int = v5 at *
      generalize (xs.map fun s => s + 130).map D.int = v6 at *
      generalize xs.reverse.map D.int = v7 at *
      generalize minI (halv xs) = mi at *
      generalize maxI (halv xs) = ma at *
      generalize (halv xs).map D.int = v8 at *
      generalize (crs xs).map D.int = v9 at *
      generalize xs.map D.int = v10 at *
      generalize (bs ++ [50, 420, -100]).map D.int = v11 at *
      generalize bs.map D.int = v12 at *
      generalize (xs.length : Int) * ((xs.length : Int) - 1) = pr at *
      generalize scl (a + b) = sab at *
      generalize scl (a - b) = sa at *
      generalize scl (b - a) = sb at *
      generalize scl a = ya at *
      generalize scl b = yb at *
      by_cases hab : a < b
      · have hn := p7 hab
        simp (disch := first | assumption | omega | (simp only [List.length_cons, List.length_append, List.length_map, List.length_nil, List.length_set, List.length_replicate, rep_length, Nat.zero_add, Nat.mul_one]; omega) | (refine mul_ok ?_ ?_ <;> omega) | (refine cdiv_ok ?_ ?_ <;> omega) | (simp; done) | fail) [law_k22_b1, hc1, hadd, hc2, tu1, hlen, f1, f2, s1, s2, s3, s4, s5, s6, b1, b2, b3, hl2, k3, tu2, g1, k4, tu3, m1, g2, k5, tu4, m2, rv1, rv2, rv3, g3, g4, m3, k6, tu5, g5, g6, m4, ea, eb, g7, q1, q2, q3, q4, q5, q6, m5, hmx, hz1, hz2, p6, hab, hn, -mul_int, -add_lst, -len_tup, -sum_tup, -minT_tup, -maxT_tup, -rev_tup, -max_two, -tuple_lst]
      · simp (disch := first | assumption | omega | (simp only [List.length_cons, List.length_append, List.length_map, List.length_nil, List.length_set, List.length_replicate, rep_length, Nat.zero_add, Nat.mul_one]; omega) | (refine mul_ok ?_ ?_ <;> omega) | (refine cdiv_ok ?_ ?_ <;> omega) | (simp; done) | fail) [law_k22_b1, hc1, hadd, hc2, tu1, hlen, f1, f2, s1, s2, s3, s4, s5, s6, b1, b2, b3, hl2, k3, tu2, g1, k4, tu3, m1, g2, k5, tu4, m2, rv1, rv2, rv3, g3, g4, m3, k6, tu5, g5, g6, m4, ea, eb, g7, q1, q2, q3, q4, q5, q6, m5, hmx, hz1, hz2, p6, hab, -mul_int, -add_lst, -len_tup, -sum_tup, -minT_tup, -maxT_tup, -rev_tup, -max_two, -tuple_lst])
  have e : law_k22_l1 _ _ = _ := e
  simp (disch := first | assumption | omega | (simp only [List.length_cons, List.length_append, List.length_map, List.length_nil, List.length_set, List.length_replicate, rep_length, Nat.zero_add, Nat.mul_one]; omega) | (refine mul_ok ?_ ?_ <;> omega) | (refine cdiv_ok ?_ ?_ <;> omega) | (simp; done) | fail) [f_law_k22, b_law_k22, e]
  exact leave_app (st := []) rfl
end DL
namespace DL
open PySem PySem.Spec PyProof.Rows L2
def topS (i : Nat) : Stmt := PySem.Challenge.pw_boardcalls_k22_whole_boards_in_all.main.body.getD i (.Pass ⟨0, 0, 0, 0⟩)
abbrev s_l_draw_k01 : Stmt := topS 7
theorem sc_l_draw_k01 : FnScope ["_law_script", "_law_town", "_law_many", "_law_cell", "_law_k", "_law_digits", "_law_number", "_law_more"] ["_law_script", "_law_town", "_law_many"] (defScope s_l_draw_k01) := ⟨rfl, rfl, rfl, by decide +kernel, rfl, by decide +kernel, by decide +kernel⟩
set_option maxHeartbeats 4000000 in
theorem body_l_draw_k01 {G : Gm} {P : Program} {w : World} {mg : Str → Option Value} {base : Heap} {k : Nat} (B : Bl G P w mg) : BodyOk G P w mg base ["_law_script", "_law_town", "_law_many", "_law_cell", "_law_k", "_law_digits", "_law_number", "_law_more"] "_law_draw" (defScope s_l_draw_k01) k (defBody s_l_draw_k01) b_l_draw_k01 := fun f cdv A outer s H E C =>
  dss_cons (ds_if (db_not (db_tru C (de_var 1))) (dss_one (ds_expr (dm_append C (de_var 1) (da_cons (dc_max C B.max (da_cons (de_op2 (op_addI C) (de_lc [("_law_cell", 3)] C sc_l_draw_k01.nd (di_seq C (de_var 0)) (blkOk_by (by kernel_rfl)) (by decide) (fun _ _ _ _ _ C => dg_name 3 sc_l_draw_k01.nd) (fun _ _ _ _ _ C => dts_nil) (fun _ _ _ _ _ C => dc_abs C B.abs (da_cons (de_var 3) (da_nil)))) (de_lst (da_cons (de_int) (da_nil)))) (da_nil))) (da_nil))))) (dss_nil)) (dss_cons (ds_expr (dm_append C (de_var 1) (da_cons (de_int) (da_nil)))) (dss_cons (ds_set 4 sc_l_draw_k01.nd (dc_len C B.len (da_cons (de_var 1) (da_nil)))) (dss_cons (ds_set 3 sc_l_draw_k01.nd (de_if (db_tru C (de_var 0)) (de_ix C (de_var 0) (de_op2 op_modI (de_var 4) (dc_len C B.len (da_cons (de_var 0) (da_nil))))) (de_int))) (dss_cons (ds_set 5 sc_l_draw_k01.nd (de_op2 op_modI (de_ix C (de_var 1) (de_int)) (de_int))) (dss_cons (ds_setItem (de_op2 op_fdivI (de_ix C (de_var 1) (de_int)) (de_int)) (de_var 1) (de_int)) (dss_cons (ds_set 6 sc_l_draw_k01.nd (de_op2 op_modI (de_op2 (op_addI C) (de_op2 (op_addI C) (de_var 3) (de_op2 (op_mulI C) (de_int) (de_var 5))) (de_op2 (op_mulI C) (de_int) (de_var 4))) (de_int))) (dss_cons (ds_set 6 sc_l_draw_k01.nd (de_op2 op_modI (de_op2 (op_mulI C) (de_op2 op_modI (de_op2 (op_mulI C) (de_var 6) (de_var 6)) (de_int)) (de_int)) (de_int))) (dss_cons (ds_set 7 sc_l_draw_k01.nd (de_op2 op_modI (de_op2 (op_mulI C) (de_op2 op_modI (de_op2 (op_mulI C) (de_var 6) (de_var 6)) (de_int)) (de_int)) (de_int))) (dss_one (ds_ret (de_op2 op_modI (de_op2 (op_addI C) (de_op2 (op_mulI C) (de_op2 op_fdivI (de_var 6) (de_int)) (de_int)) (de_op2 op_fdivI (de_var 7) (de_int))) (de_var 2))))))))))))
theorem cal_l_draw_k01 {G : Gm} {P : Program} {w : World} {mg : Str → Option Value} {base : Heap} {k : Nat} (B : Bl G P w mg) (D : Dfn G mg "_law_draw" s_l_draw_k01) : Cal G P w mg base (k + 1) "_law_draw" 3 f_l_draw_k01 := D.cal B sc_l_draw_k01 (fun _ _ _ _ _ _ us hl => match us, hl with | [_, _, _], _ => rfl) (body_l_draw_k01 B)
abbrev s_l_pick : Stmt := topS 8
theorem sc_l_pick : FnScope ["_law_script", "_law_town", "_law_some"] ["_law_script", "_law_town", "_law_some"] (defScope s_l_pick) := ⟨rfl, rfl, rfl, by decide +kernel, rfl, by decide +kernel, by decide +kernel⟩
set_option maxHeartbeats 4000000 in
theorem body_l_pick {G : Gm} {P : Program} {w : World} {mg : Str → Option Value} {base : Heap} {k : Nat} (B : Bl G P w mg) (c_l_draw_k01 : Cal G P w mg base k "_law_draw" 3 f_l_draw_k01) : BodyOk G P w mg base ["_law_script", "_law_town", "_law_some"] "_law_pick" (defScope s_l_pick) k (defBody s_l_pick) b_l_pick := fun f cdv A outer s H E C =>
  dss_one (ds_ret (de_ix C (de_var 2) (de_call C c_l_draw_k01 (by rfl) (da_cons (de_var 0) (da_cons (de_var 1) (da_cons (dc_len C B.len (da_cons (de_var 2) (da_nil))) (da_nil)))))))
theorem cal_l_pick {G : Gm} {P : Program} {w : World} {mg : Str → Option Value} {base : Heap} {k : Nat} (B : Bl G P w mg) (D : Dfn G mg "_law_pick" s_l_pick) (c_l_draw_k01 : Cal G P w mg base k "_law_draw" 3 f_l_draw_k01) : Cal G P w mg base (k + 1) "_law_pick" 3 f_l_pick := D.cal B sc_l_pick (fun _ _ _ _ _ _ us hl => match us, hl with | [_, _, _], _ => rfl) (body_l_pick B c_l_draw_k01)
abbrev s_halves : Stmt := topS 2
theorem sc_halves : FnScope ["scores", "found", "score", "less", "other"] ["scores"] (defScope s_halves) := ⟨rfl, rfl, rfl, by decide +kernel, rfl, by decide +kernel, by decide +kernel⟩
set_option maxHeartbeats 4000000 in
theorem body_halves {G : Gm} {P : Program} {w : World} {mg : Str → Option Value} {base : Heap} {k : Nat} (B : Bl G P w mg) : BodyOk G P w mg base ["scores", "found", "score", "less", "other"] "halves" (defScope s_halves) k (defBody s_halves) b_halves := fun f cdv A outer s H E C =>
  dss_cons (ds_set 1 sc_halves.nd (de_new (da_nil))) (dss_cons (ds_for [2, 3] C (passes_of rfl) (di_seq C (de_var 0)) (dg_name 2 sc_halves.nd) (dss_cons (ds_set 3 sc_halves.nd (dc_len C B.len (da_cons (de_lc [("other", 4)] C sc_halves.nd (di_seq C (de_var 0)) (blkOk_by (by kernel_rfl)) (by decide) (fun _ _ _ _ _ C => dg_name 4 sc_halves.nd) (fun _ _ _ _ _ C => dts_one (db_cmp (op_lt2 C) tells_lt (de_var 4) (de_var 2) rfl)) (fun _ _ _ _ _ C => de_int)) (da_nil)))) (dss_one (ds_expr (dm_append C (de_var 1) (da_cons (de_op2 op_subI (de_op2 (op_addI C) (de_op2 (op_mulI C) (de_int) (de_var 3)) (dm_count C (de_var 0) (da_cons (de_var 2) (da_nil)))) (de_int)) (da_nil))))))) (dss_one (ds_ret (dc_tuple C B.tuple (da_cons (de_var 1) (da_nil))))))
theorem cal_halves {G : Gm} {P : Program} {w : World} {mg : Str → Option Value} {base : Heap} {k : Nat} (B : Bl G P w mg) (D : Dfn G mg "halves" s_halves) : Cal G P w mg base (k + 1) "halves" 1 f_halves := D.cal B sc_halves (fun _ _ _ _ _ _ us hl => match us, hl with | [_], _ => rfl) (body_halves B)
abbrev s_scaled : Stmt := topS 3
theorem sc_scaled : FnScope ["difference", "many", "step"] ["difference"] (defScope s_scaled) := ⟨rfl, rfl, rfl, by decide +kernel, rfl, by decide +kernel, by decide +kernel⟩
set_option maxHeartbeats 4000000 in
theorem body_scaled {G : Gm} {P : Program} {w : World} {mg : Str → Option Value} {base : Heap} {k : Nat} (B : Bl G P w mg) (t_STEPS : TabF G mg "STEPS" tab_STEPS) : BodyOk G P w mg base ["difference", "many", "step"] "scaled" (defScope s_scaled) k (defBody s_scaled) b_scaled := fun f cdv A outer s H E C =>
  dss_cons (ds_set 1 sc_scaled.nd (dc_len C B.len (da_cons (de_lc [("step", 2)] C sc_scaled.nd (di_seq C (de_tab t_STEPS (by rfl))) (blkOk_by (by kernel_rfl)) (by decide) (fun _ _ _ _ _ C => dg_name 2 sc_scaled.nd) (fun _ _ _ _ _ C => dts_one (db_cmp op_le2 tells_le (de_var 2) (dc_abs C B.abs (da_cons (de_var 0) (da_nil))) rfl)) (fun _ _ _ _ _ C => de_var 2)) (da_nil)))) (dss_one (ds_ret (de_if (db_cmp (op_gt2 C) tells_gt (de_var 0) (de_int) rfl) (de_var 1) (de_op1 op_negI (de_var 1)))))
theorem cal_scaled {G : Gm} {P : Program} {w : World} {mg : Str → Option Value} {base : Heap} {k : Nat} (B : Bl G P w mg) (D : Dfn G mg "scaled" s_scaled) (t_STEPS : TabF G mg "STEPS" tab_STEPS) : Cal G P w mg base (k + 1) "scaled" 1 f_scaled := D.cal B sc_scaled (fun _ _ _ _ _ _ us hl => match us, hl with | [_], _ => rfl) (body_scaled B t_STEPS)
abbrev s_cross : Stmt := topS 4
theorem sc_cross : FnScope ["scores", "score", "other"] ["scores"] (defScope s_cross) := ⟨rfl, rfl, rfl, by decide +kernel, rfl, by decide +kernel, by decide +kernel⟩
set_option maxHeartbeats 4000000 in
theorem body_cross {G : Gm} {P : Program} {w : World} {mg : Str → Option Value} {base : Heap} {k : Nat} (B : Bl G P w mg) (c_scaled : Cal G P w mg base k "scaled" 1 f_scaled) : BodyOk G P w mg base ["scores", "score", "other"] "cross" (defScope s_cross) k (defBody s_cross) b_cross := fun f cdv A outer s H E C =>
  dss_one (ds_ret (dc_tuple C B.tuple (da_cons (de_lc [("score", 1)] C sc_cross.nd (di_seq C (de_var 0)) (blkOk_by (by kernel_rfl)) (by decide) (fun _ _ _ _ _ C => dg_name 1 sc_cross.nd) (fun _ _ _ _ _ C => dts_nil) (fun _ _ _ _ _ C => dc_sum C B.sum (da_cons (de_lc [("other", 2)] C sc_cross.nd (di_seq C (de_var 0)) (blkOk_by (by kernel_rfl)) (by decide) (fun _ _ _ _ _ C => dg_name 2 sc_cross.nd) (fun _ _ _ _ _ C => dts_nil) (fun _ _ _ _ _ C => de_call C c_scaled (by rfl) (da_cons (de_op2 op_subI (de_var 1) (de_var 2)) (da_nil)))) (da_nil)))) (da_nil))))
theorem cal_cross {G : Gm} {P : Program} {w : World} {mg : Str → Option Value} {base : Heap} {k : Nat} (B : Bl G P w mg) (D : Dfn G mg "cross" s_cross) (c_scaled : Cal G P w mg base k "scaled" 1 f_scaled) : Cal G P w mg base (k + 1) "cross" 1 f_cross := D.cal B sc_cross (fun _ _ _ _ _ _ us hl => match us, hl with | [_], _ => rfl) (body_cross B c_scaled)
abbrev s_l_same : Stmt := topS 6
theorem sc_l_same : FnScope ["_law_got", "_law_due", "_law_one", "_law_other"] ["_law_got", "_law_due"] (defScope s_l_same) := ⟨rfl, rfl, rfl, by decide +kernel, rfl, by decide +kernel, by decide +kernel⟩
set_option maxHeartbeats 4000000 in
theorem body_l_same {G : Gm} {P : Program} {w : World} {mg : Str → Option Value} {base : Heap} {k : Nat} (rec : Fn) (B : Bl G P w mg) (c_l_same : Cal G P w mg base k "_law_same" 2 rec) : BodyOk G P w mg base ["_law_got", "_law_due", "_law_one", "_law_other"] "_law_same" (defScope s_l_same) k (defBody s_l_same) (b_l_same rec) := fun f cdv A outer s H E C =>
  dss_cons (ds_if (db_cmp op_isI tells_is (de_var 1) (de_non) rfl) (dss_one (ds_ret (de_cmp op_isI (de_var 0) (de_non) rfl))) (dss_nil)) (dss_cons (ds_if (db_tru C (de_isi "bool" C (by rfl) B.isinstance (by rfl) B.bool bt_bool (de_var 1))) (dss_one (ds_ret (de_and C (de_isi "bool" C (by rfl) B.isinstance (by rfl) B.bool bt_bool (de_var 0)) (de_one (de_cmp (op_eq2 C) (de_var 0) (de_var 1) rfl))))) (dss_nil)) (dss_cons (ds_if (db_tru C (de_isi "tuple" C (by rfl) B.isinstance (by rfl) B.tuple bt_tuple (de_var 1))) (dss_cons (ds_if ((dw_or (db_not (db_tru C (de_isi "tuple" C (by rfl) B.isinstance (by rfl) B.tuple bt_tuple (de_var 0)))) (dw_or1 (db_cmp (op_ne2 C) tells_ne (dc_len C B.len (da_cons (de_var 0) (da_nil))) (dc_len C B.len (da_cons (de_var 1) (da_nil))) rfl))).db) (dss_one (ds_ret (de_bl))) (dss_nil)) (dss_one (ds_ret (dc_all C B.all (da_cons (de_lc [("_law_one", 2), ("_law_other", 3)] C sc_l_same.nd (di_zip C (by rfl) B.zip (da_cons (de_var 0) (da_cons (de_var 1) (da_nil)))) (blkOk_by (by kernel_rfl)) (by decide) (fun _ _ _ _ _ C => dg_tup C (dgs_cons (dg_name 2 sc_l_same.nd) (dgs_cons (dg_name 3 sc_l_same.nd) (dgs_nil)))) (fun _ _ _ _ _ C => dts_nil) (fun _ _ _ _ _ C => de_call C c_l_same (by rfl) (da_cons (de_var 2) (da_cons (de_var 3) (da_nil))))) (da_nil)))))) (dss_nil)) (dss_cons (ds_if (db_tru C (de_isi "str" C (by rfl) B.isinstance (by rfl) B.str bt_str (de_var 1))) (dss_one (ds_ret (de_and C (de_isi "str" C (by rfl) B.isinstance (by rfl) B.str bt_str (de_var 0)) (de_one (de_cmp (op_eq2 C) (de_var 0) (de_var 1) rfl))))) (dss_nil)) (dss_one (ds_ret (de_and C (de_isi "int" C (by rfl) B.isinstance (by rfl) B.int bt_int (de_var 0)) (de_and C (de_not C (de_isi "bool" C (by rfl) B.isinstance (by rfl) B.bool bt_bool (de_var 0))) (de_one (de_cmp (op_eq2 C) (de_var 0) (de_var 1) rfl)))))))))
theorem cal_l_same {G : Gm} {P : Program} {w : World} {mg : Str → Option Value} {base : Heap} {k : Nat} (rec : Fn) (B : Bl G P w mg) (D : Dfn G mg "_law_same" s_l_same) (c_l_same : Cal G P w mg base k "_law_same" 2 rec) : Cal G P w mg base (k + 1) "_law_same" 2 (defG 4 2 (b_l_same rec)) := D.cal B sc_l_same (fun _ _ _ _ _ _ us hl => match us, hl with | [_, _], _ => rfl) (body_l_same rec B c_l_same)
abbrev s_law_k22 : Stmt := topS 9
theorem sc_law_k22 : FnScope ["_law_script", "_law_town", "_law_k", "_law_base", "_law_scores", "_law_many", "_law_points", "_law_swings", "_law_one", "_law_two", "_law_three", "_law_other", "_law_half", "_law_swing", "_law_turned", "_law_more", "_law_j", "_law_score"] ["_law_script"] (defScope s_law_k22) := ⟨rfl, rfl, rfl, by decide +kernel, rfl, by decide +kernel, by decide +kernel⟩
set_option maxHeartbeats 4000000 in
theorem body_law_k22 {G : Gm} {P : Program} {w : World} {mg : Str → Option Value} {base : Heap} {k : Nat} (B : Bl G P w mg) (c_l_draw_k01 : Cal G P w mg base k "_law_draw" 3 f_l_draw_k01) (c_l_pick : Cal G P w mg base k "_law_pick" 3 f_l_pick) (c_halves : Cal G P w mg base k "halves" 1 f_halves) (c_cross : Cal G P w mg base k "cross" 1 f_cross) (c_l_same : Cal G P w mg base k "_law_same" 2 (f_l_same dep_l_same)) (c_scaled : Cal G P w mg base k "scaled" 1 f_scaled) : BodyOk G P w mg base ["_law_script", "_law_town", "_law_k", "_law_base", "_law_scores", "_law_many", "_law_points", "_law_swings", "_law_one", "_law_two", "_law_three", "_law_other", "_law_half", "_law_swing", "_law_turned", "_law_more", "_law_j", "_law_score"] "law" (defScope s_law_k22) k (defBody s_law_k22) b_law_k22 := fun f cdv A outer s H E C =>
  dss_cons (ds_set 1 sc_law_k22.nd (de_new (da_nil))) (dss_cons (ds_for [2, 3, 4, 5, 6, 7, 8, 9, 10, 11, 14, 15] C (passes_of rfl) (di_range1 (by rfl) B.range (de_int)) (dg_name 2 sc_law_k22.nd) (dss_cons (ds_set 3 sc_law_k22.nd (de_op2 (op_addI C) (de_lc [("_law_j", 16)] C sc_law_k22.nd (di_range1 (by rfl) B.range (de_int)) (blkOk_by (by kernel_rfl)) (by decide) (fun _ _ _ _ _ C => dg_name 16 sc_law_k22.nd) (fun _ _ _ _ _ C => dts_nil) (fun _ _ _ _ _ C => de_op2 op_subI (de_op2 (op_mulI C) (de_call C c_l_draw_k01 (by rfl) (da_cons (de_var 0) (da_cons (de_var 1) (da_cons (de_int) (da_nil))))) (de_int)) (de_int))) (de_lst (da_cons (de_int) (da_cons (de_int) (da_cons (de_op1 op_negI (de_int)) (da_nil))))))) (dss_cons (ds_set 4 sc_law_k22.nd (dc_tuple C B.tuple (da_cons (de_lc [("_law_j", 16)] C sc_law_k22.nd (di_range1 (by rfl) B.range (de_op2 (op_addI C) (de_int) (de_call C c_l_draw_k01 (by rfl) (da_cons (de_var 0) (da_cons (de_var 1) (da_cons (de_int) (da_nil))))))) (blkOk_by (by kernel_rfl)) (by decide) (fun _ _ _ _ _ C => dg_name 16 sc_law_k22.nd) (fun _ _ _ _ _ C => dts_nil) (fun _ _ _ _ _ C => de_call C c_l_pick (by rfl) (da_cons (de_var 0) (da_cons (de_var 1) (da_cons (de_var 3) (da_nil)))))) (da_nil)))) (dss_cons (ds_asg (de_tup (da_cons (dc_len C B.len (da_cons (de_var 4) (da_nil))) (da_cons (de_call C c_halves (by rfl) (da_cons (de_var 4) (da_nil))) (da_cons (de_call C c_cross (by rfl) (da_cons (de_var 4) (da_nil))) (da_nil))))) (dg_tup C (dgs_cons (dg_name 5 sc_law_k22.nd) (dgs_cons (dg_name 6 sc_law_k22.nd) (dgs_cons (dg_name 7 sc_law_k22.nd) (dgs_nil)))))) (dss_cons (ds_if ((dw_or (db_cmp (op_ne2 C) tells_ne (dc_sum C B.sum (da_cons (de_var 6) (da_nil))) (de_op2 (op_mulI C) (de_var 5) (de_op2 op_subI (de_var 5) (de_int))) rfl) (dw_or (db_cmp (op_ne2 C) tells_ne (dc_sum C B.sum (da_cons (de_var 7) (da_nil))) (de_int) rfl) (dw_or1 (db_not (db_chain3 op_le2 op_le2 op_le2 tells_le (de_int) (dc_minT C B.min (da_cons (de_var 6) (da_nil))) (dc_maxT C B.max (da_cons (de_var 6) (da_nil))) (de_op2 op_subI (de_op2 (op_mulI C) (de_int) (de_var 5)) (de_int))))))).db) (dss_one (ds_ret (de_bl))) (dss_nil)) (dss_cons (ds_for [8, 9, 10, 11] C (passes_of rfl) (di_zip3 C (by rfl) B.zip (da_cons (de_var 4) (da_cons (de_var 6) (da_cons (de_var 7) (da_nil))))) (dg_tup C (dgs_cons (dg_name 8 sc_law_k22.nd) (dgs_cons (dg_name 9 sc_law_k22.nd) (dgs_cons (dg_name 10 sc_law_k22.nd) (dgs_nil))))) (dss_one (ds_for [11] C (passes_of rfl) (di_zip3 C (by rfl) B.zip (da_cons (de_var 4) (da_cons (de_var 6) (da_cons (de_var 7) (da_nil))))) (dg_tup C (dgs_cons (dg_name 11 sc_law_k22.nd) (dgs_cons (dg_name 12 sc_law_k22.nd) (dgs_cons (dg_name 13 sc_law_k22.nd) (dgs_nil))))) (dss_one (ds_if ((dw_or ((dw_and (db_cmp (op_gt2 C) tells_gt (de_var 8) (de_var 11) rfl) (dw_and1 ((dw_or (db_cmp op_le2 tells_le (de_var 9) (de_var 12) rfl) (dw_or1 (db_cmp (op_lt2 C) tells_lt (de_var 10) (de_var 13) rfl))).db))).db) (dw_or1 ((dw_and (db_cmp (op_eq2 C) tells_eq (de_var 8) (de_var 11) rfl) (dw_and1 (db_cmp (op_ne2 C) tells_ne (de_tup (da_cons (de_var 9) (da_cons (de_var 10) (da_nil)))) (de_tup (da_cons (de_var 12) (da_cons (de_var 13) (da_nil)))) rfl))).db))).db) (dss_one (ds_ret (de_bl))) (dss_nil)))))) (dss_cons (ds_set 14 sc_law_k22.nd (dc_tuple C B.tuple (da_cons (de_lc [("_law_score", 17)] C sc_law_k22.nd (di_seq C (de_var 4)) (blkOk_by (by kernel_rfl)) (by decide) (fun _ _ _ _ _ C => dg_name 17 sc_law_k22.nd) (fun _ _ _ _ _ C => dts_nil) (fun _ _ _ _ _ C => de_op2 op_subI (de_int) (de_var 17))) (da_nil)))) (dss_cons (ds_if (db_not (db_tru C (de_call C c_l_same (by rfl) (da_cons (de_call C c_halves (by rfl) (da_cons (de_var 14) (da_nil))) (da_cons (dc_tuple C B.tuple (da_cons (de_lc [("_law_half", 12)] C sc_law_k22.nd (di_seq C (de_var 6)) (blkOk_by (by kernel_rfl)) (by decide) (fun _ _ _ _ _ C => dg_name 12 sc_law_k22.nd) (fun _ _ _ _ _ C => dts_nil) (fun _ _ _ _ _ C => de_op2 op_subI (de_op2 op_subI (de_op2 (op_mulI C) (de_int) (de_var 5)) (de_int)) (de_var 12))) (da_nil))) (da_nil)))))) (dss_one (ds_ret (de_bl))) (dss_nil)) (dss_cons (ds_if (db_not (db_tru C (de_call C c_l_same (by rfl) (da_cons (de_call C c_cross (by rfl) (da_cons (de_var 14) (da_nil))) (da_cons (dc_tuple C B.tuple (da_cons (de_lc [("_law_swing", 13)] C sc_law_k22.nd (di_seq C (de_var 7)) (blkOk_by (by kernel_rfl)) (by decide) (fun _ _ _ _ _ C => dg_name 13 sc_law_k22.nd) (fun _ _ _ _ _ C => dts_nil) (fun _ _ _ _ _ C => de_op2 op_subI (de_int) (de_var 13))) (da_nil))) (da_nil)))))) (dss_one (ds_ret (de_bl))) (dss_nil)) (dss_cons (ds_if (db_not (db_tru C (de_call C c_l_same (by rfl) (da_cons (de_tup (da_cons (de_call C c_halves (by rfl) (da_cons (de_rev C (de_var 4)) (da_nil))) (da_cons (de_call C c_cross (by rfl) (da_cons (de_rev C (de_var 4)) (da_nil))) (da_nil)))) (da_cons (de_tup (da_cons (de_rev C (de_var 6)) (da_cons (de_rev C (de_var 7)) (da_nil)))) (da_nil)))))) (dss_one (ds_ret (de_bl))) (dss_nil)) (dss_cons (ds_set 15 sc_law_k22.nd (dc_tuple C B.tuple (da_cons (de_lc [("_law_score", 17)] C sc_law_k22.nd (di_seq C (de_var 4)) (blkOk_by (by kernel_rfl)) (by decide) (fun _ _ _ _ _ C => dg_name 17 sc_law_k22.nd) (fun _ _ _ _ _ C => dts_nil) (fun _ _ _ _ _ C => de_op2 (op_addI C) (de_var 17) (de_int))) (da_nil)))) (dss_cons (ds_if (db_not (db_tru C (de_call C c_l_same (by rfl) (da_cons (de_tup (da_cons (de_call C c_halves (by rfl) (da_cons (de_var 15) (da_nil))) (da_cons (de_call C c_cross (by rfl) (da_cons (de_var 15) (da_nil))) (da_nil)))) (da_cons (de_tup (da_cons (de_var 6) (da_cons (de_var 7) (da_nil)))) (da_nil)))))) (dss_one (ds_ret (de_bl))) (dss_nil)) (dss_cons (ds_par 8 9 C sc_law_k22.nd (da_cons (de_call C c_l_draw_k01 (by rfl) (da_cons (de_var 0) (da_cons (de_var 1) (da_cons (de_int) (da_nil))))) (da_cons (de_call C c_l_draw_k01 (by rfl) (da_cons (de_var 0) (da_cons (de_var 1) (da_cons (de_int) (da_nil))))) (da_nil)))) (dss_cons (ds_if ((dw_or (db_not (db_tru C (de_call C c_l_same (by rfl) (da_cons (de_call C c_cross (by rfl) (da_cons (de_tup (da_cons (de_var 8) (da_cons (de_var 9) (da_nil)))) (da_nil))) (da_cons (de_tup (da_cons (de_call C c_scaled (by rfl) (da_cons (de_op2 op_subI (de_var 8) (de_var 9)) (da_nil))) (da_cons (de_call C c_scaled (by rfl) (da_cons (de_op2 op_subI (de_var 9) (de_var 8)) (da_nil))) (da_nil)))) (da_nil)))))) (dw_or1 (db_cmp (op_ne2 C) tells_ne (de_call C c_scaled (by rfl) (da_cons (de_op1 op_negI (de_var 8)) (da_nil))) (de_op1 op_negI (de_call C c_scaled (by rfl) (da_cons (de_var 8) (da_nil)))) rfl))).db) (dss_one (ds_ret (de_bl))) (dss_nil)) (dss_one (ds_if ((dw_or (db_not (db_chain3 op_le2 op_le2 op_le2 tells_le (de_int) (dc_max C B.max (da_cons (de_call C c_scaled (by rfl) (da_cons (de_var 8) (da_nil))) (da_cons (de_call C c_scaled (by rfl) (da_cons (de_var 9) (da_nil))) (da_nil)))) (de_call C c_scaled (by rfl) (da_cons (de_op2 (op_addI C) (de_var 8) (de_var 9)) (da_nil))) (de_int))) (dw_or1 ((dw_and (db_cmp (op_lt2 C) tells_lt (de_var 8) (de_var 9) rfl) (dw_and1 (db_cmp (op_gt2 C) tells_gt (de_call C c_scaled (by rfl) (da_cons (de_var 8) (da_nil))) (de_call C c_scaled (by rfl) (da_cons (de_var 9) (da_nil))) rfl))).db))).db) (dss_one (ds_ret (de_bl))) (dss_nil))))))))))))))))) (dss_one (ds_ret (de_bl))))
theorem cal_law_k22 {G : Gm} {P : Program} {w : World} {mg : Str → Option Value} {base : Heap} {k : Nat} (B : Bl G P w mg) (D : Dfn G mg "law" s_law_k22) (c_l_draw_k01 : Cal G P w mg base k "_law_draw" 3 f_l_draw_k01) (c_l_pick : Cal G P w mg base k "_law_pick" 3 f_l_pick) (c_halves : Cal G P w mg base k "halves" 1 f_halves) (c_cross : Cal G P w mg base k "cross" 1 f_cross) (c_l_same : Cal G P w mg base k "_law_same" 2 (f_l_same dep_l_same)) (c_scaled : Cal G P w mg base k "scaled" 1 f_scaled) : Cal G P w mg base (k + 1) "law" 1 f_law_k22 := D.cal B sc_law_k22 (fun _ _ _ _ _ _ us hl => match us, hl with | [_], _ => rfl) (body_law_k22 B c_l_draw_k01 c_l_pick c_halves c_cross c_l_same c_scaled)
def ddS (x : Str) (i : Nat) : He.DefD := ⟨(x, none), x, x, defArgs (topS i), defBody (topS i), defScope (topS i), [], []⟩
def fnL : List He.DefD := [ddS "_law_draw" 7, ddS "_law_pick" 8, ddS "halves" 2, ddS "scaled" 3, ddS "cross" 4, ddS "_law_same" 6, ddS "law" 9]
def faL : List He.Fa := [.glo "_law_draw", .glo "_law_pick", .glo "halves", .glo "scaled", .glo "cross", .glo "_law_same", .glo "law", .free "abs", .free "all", .free "enumerate", .free "int", .free "bool", .free "isinstance", .free "len", .free "list", .free "max", .free "min", .free "range", .free "set", .free "sorted", .free "str", .free "sum", .free "tuple", .free "zip", .glo "STEPS"]
def tsL : List (Str × List Int) := [("STEPS", tab_STEPS)]
theorem blL {G : Gm} {P : Program} {w : World} (hp : P = G.pr) (hw : w = G.wd) {h : Heap} {mg : Str → Option Value} (X : G.K.In h) (N : h.Ns mainGlobals mg) (c : He.SaysD faL fnL G.K) : Bl G P w mg := ⟨hp, hw, He.free_ok X N (c.fact 7 (f := .free "abs") rfl), He.free_ok X N (c.fact 8 (f := .free "all") rfl), He.free_ok X N (c.fact 9 (f := .free "enumerate") rfl), He.free_ok X N (c.fact 10 (f := .free "int") rfl), He.free_ok X N (c.fact 11 (f := .free "bool") rfl), He.free_ok X N (c.fact 12 (f := .free "isinstance") rfl), He.free_ok X N (c.fact 13 (f := .free "len") rfl), He.free_ok X N (c.fact 14 (f := .free "list") rfl), He.free_ok X N (c.fact 15 (f := .free "max") rfl), He.free_ok X N (c.fact 16 (f := .free "min") rfl), He.free_ok X N (c.fact 17 (f := .free "range") rfl), He.free_ok X N (c.fact 18 (f := .free "set") rfl), He.free_ok X N (c.fact 19 (f := .free "sorted") rfl), He.free_ok X N (c.fact 20 (f := .free "str") rfl), He.free_ok X N (c.fact 21 (f := .free "sum") rfl), He.free_ok X N (c.fact 22 (f := .free "tuple") rfl), He.free_ok X N (c.fact 23 (f := .free "zip") rfl)⟩
theorem dfn_l_draw_k01 {G : Gm} {h : Heap} {mg : Str → Option Value} (X : G.K.In h) (N : h.Ns mainGlobals mg) (c : He.SaysD faL fnL G.K) : Dfn G mg "_law_draw" s_l_draw_k01 := dfn_of X N (c.fact 0 (f := .glo "_law_draw") rfl) (c.def_ 0 (d := ddS "_law_draw" 7) rfl)
theorem dfn_l_pick {G : Gm} {h : Heap} {mg : Str → Option Value} (X : G.K.In h) (N : h.Ns mainGlobals mg) (c : He.SaysD faL fnL G.K) : Dfn G mg "_law_pick" s_l_pick := dfn_of X N (c.fact 1 (f := .glo "_law_pick") rfl) (c.def_ 1 (d := ddS "_law_pick" 8) rfl)
theorem dfn_halves {G : Gm} {h : Heap} {mg : Str → Option Value} (X : G.K.In h) (N : h.Ns mainGlobals mg) (c : He.SaysD faL fnL G.K) : Dfn G mg "halves" s_halves := dfn_of X N (c.fact 2 (f := .glo "halves") rfl) (c.def_ 2 (d := ddS "halves" 2) rfl)
theorem dfn_scaled {G : Gm} {h : Heap} {mg : Str → Option Value} (X : G.K.In h) (N : h.Ns mainGlobals mg) (c : He.SaysD faL fnL G.K) : Dfn G mg "scaled" s_scaled := dfn_of X N (c.fact 3 (f := .glo "scaled") rfl) (c.def_ 3 (d := ddS "scaled" 3) rfl)
theorem dfn_cross {G : Gm} {h : Heap} {mg : Str → Option Value} (X : G.K.In h) (N : h.Ns mainGlobals mg) (c : He.SaysD faL fnL G.K) : Dfn G mg "cross" s_cross := dfn_of X N (c.fact 4 (f := .glo "cross") rfl) (c.def_ 4 (d := ddS "cross" 4) rfl)
theorem dfn_l_same {G : Gm} {h : Heap} {mg : Str → Option Value} (X : G.K.In h) (N : h.Ns mainGlobals mg) (c : He.SaysD faL fnL G.K) : Dfn G mg "_law_same" s_l_same := dfn_of X N (c.fact 5 (f := .glo "_law_same") rfl) (c.def_ 5 (d := ddS "_law_same" 6) rfl)
theorem dfn_law_k22 {G : Gm} {h : Heap} {mg : Str → Option Value} (X : G.K.In h) (N : h.Ns mainGlobals mg) (c : He.SaysD faL fnL G.K) : Dfn G mg "law" s_law_k22 := dfn_of X N (c.fact 6 (f := .glo "law") rfl) (c.def_ 6 (d := ddS "law" 9) rfl)
theorem cals {G : Gm} {P : Program} {w : World} {mg : Str → Option Value} {base : Heap} {h : Heap} (hp : P = G.pr) (hw : w = G.wd) (hca : ∀ x, G.ca x = He.ga G.K x) (X : G.K.In h) (N : h.Ns mainGlobals mg) (c0 : SaysC faL fnL tsL G.K) : BodyOk G P w mg base ["_law_script", "_law_town", "_law_k", "_law_base", "_law_scores", "_law_many", "_law_points", "_law_swings", "_law_one", "_law_two", "_law_three", "_law_other", "_law_half", "_law_swing", "_law_turned", "_law_more", "_law_j", "_law_score"] "law" (defScope s_law_k22) 11 (defBody s_law_k22) b_law_k22 := by
  have c : He.SaysD faL fnL G.K := c0.d
  have B := blL hp hw X N c
  have t_STEPS : TabF G mg "STEPS" tab_STEPS := c0.tab X N 0 (t := ("STEPS", tab_STEPS)) (c.fact 24 (f := .glo "STEPS") rfl)
  have a_l_draw_k01 : Cal G P w mg base 1 "_law_draw" 3 f_l_draw_k01 := cal_l_draw_k01 (k := 0) B (dfn_l_draw_k01 X N c)
  have a_l_pick : Cal G P w mg base 2 "_law_pick" 3 f_l_pick := cal_l_pick (k := 1) B (dfn_l_pick X N c) (a_l_draw_k01.mono (by decide))
  have a_halves : Cal G P w mg base 1 "halves" 1 f_halves := cal_halves (k := 0) B (dfn_halves X N c)
  have a_scaled : Cal G P w mg base 1 "scaled" 1 f_scaled := cal_scaled (k := 0) B (dfn_scaled X N c) t_STEPS
  have a_cross : Cal G P w mg base 2 "cross" 1 f_cross := cal_cross (k := 1) B (dfn_cross X N c) (a_scaled.mono (by decide))
  have a_l_same : Cal G P w mg base 11 "_law_same" 2 (f_l_same dep_l_same) := cal_rec 0 (f := f_l_same) (F := fun rec => defG 4 2 (b_l_same rec)) (dfn_l_same X N c) sc_l_same (fun _ _ _ _ _ _ us hl => match us, hl with | [_, _], _ => rfl) rfl (fun _ => rfl) (fun k hk rec hr => cal_l_same (k := k) rec B (dfn_l_same X N c) hr) 10
  exact body_law_k22 B (a_l_draw_k01.mono (by decide)) (a_l_pick.mono (by decide)) (a_halves.mono (by decide)) (a_cross.mono (by decide)) (a_l_same.mono (by decide)) (a_scaled.mono (by decide))
abbrev rowR : PySem.W.OpenRow := PySem.W.OpenLaw.row PySem.Challenge.rw_boardcalls_k22_whole_boards_in_all
abbrev hkR : PySem.W.Hook := hookC 4 faL fnL tsL
def obR (s : PySem.W.SharedT) : AlC := obsCG 4 faL fnL tsL (HandSHeadRun.getT s)
def looseR : List Str := ["halves", "scaled", "cross", "_law_same", "_law_draw", "_law_pick", "STEPS"]
theorem obR_eq (s : PySem.W.SharedT) : obR s = hkR.obs s.abs := obsCG_eq (HandSHeadRun.getT_eq s)
theorem runR (w : World) : HandSHeadRun.RunEq rowR (PySem.W.view rowR.prog [9]) hkR obR 2000 looseR w := by
  intro os
  kernel_rfl
end DL
open PySem PySem.W PySem.Calls PyProof.Rows
theorem PySem.Challenge.cw_boardcalls_k22_whole_boards_in_all_holds : PySem.Challenge.rw_boardcalls_k22_whole_boards_in_all.Holds := by
  w_on; o_law
  refine HandSHeadRun.head_any (r := PySem.W.OpenLaw.row PySem.Challenge.rw_boardcalls_k22_whole_boards_in_all) (q := PySem.W.view (PySem.W.OpenLaw.row PySem.Challenge.rw_boardcalls_k22_whole_boards_in_all).prog [9]) (H := DL.hkR) (ob := DL.obR) (M := 2000) (loose := DL.looseR) (d := HandSHeadRun.topDef (PySem.W.OpenLaw.row PySem.Challenge.rw_boardcalls_k22_whole_boards_in_all).prog 9) (kwd := []) DL.obR_eq
    (by kernel_rfl) (fun s => by kernel_rfl) DL.runR (by kernel_rfl) (by kernel_rfl) (by kernel_rfl) (by rfl) (by first | assumption | decide +kernel) (by decide +kernel) ⟨rfl, rfl, rfl, rfl, rfl, by decide +kernel⟩ ?hw ?hc
  case hw => w_witness2
  case hc =>
    refine DL.walk_law (l := PySem.Challenge.rw_boardcalls_k22_whole_boards_in_all) (n := 63) (k := 11) (x := "_law_script") (st := DL.s_law_k22) (N := ["_law_script", "_law_town", "_law_k", "_law_base", "_law_scores", "_law_many", "_law_points", "_law_swings", "_law_one", "_law_two", "_law_three", "_law_other", "_law_half", "_law_swing", "_law_turned", "_law_more", "_law_j", "_law_score"]) (b := DL.b_law_k22) rfl (by decide) (by kernel_rfl) (by kernel_rfl) ⟨rfl, by decide, by decide⟩ DL.sc_law_k22 (fun _ _ _ _ _ _ us hl => match us, hl with | [_], _ => rfl) ?F (fun ns hl => DL.true_k22 ns hl)
    intro w mg h Y N
    obtain ⟨K, KX, c⟩ := Y
    exact ⟨⟨K, He.ga K, _, w⟩, KX, rfl, rfl, DL.dfn_law_k22 (G := ⟨K, He.ga K, _, w⟩) KX N c.d, fun base _ _ => DL.cals (G := ⟨K, He.ga K, _, w⟩) rfl rfl (fun _ => rfl) KX N c⟩
