import PyProof.Rows.All
import Wide.All
import OpenK.AllK
import Wide.FinOn
import KE.KStateDown
import Lean
import HandS.ForMost
import HandS.Exc
import HandS.WordsExc
import HandS.Defaults
import HandS.DictComp
import HandS.FStr
import HandS.SortKw
import HandS.SetKeys
import HandS.Flow
import HandS.TupLe
import HandS.TupAny
import HandS.Replace
import HandS.IsInst
import HandS.ListItems
import HandS.More
import HandS.Deep
import HandS.Conv
import HandS.Lambda
import KE.KDictKeyed
import KE.KDictWalk
import KE.SortData
import KE.GoesDict
import HandS.Head0
import HandS.Head1
import HandS.Head2
import HandS.HeadEnd
import HandS.HeadHook1
import HandS.HeadHook2
import KE.KDictPairs
import KE.KUnpackStar
import HandS.ReplaceLit
import HandS.TupSets
import KE.GoesEnum
import HandS.DictTup
import HandS.Zip
import HandS.CallLocal
import KE.DataCmp
import HandS.Style
import HandS.TryOnly
import KE.KDictZip
import KE.SortKeyHeap
import KE.KSortKey
import KE.KLam
import HandS.MakeKwOnly
import HandS.CallSlots
import HandS.ExcInit
import HandS.ExcField
import HandS.HeadHook4
import HandS.HeadWalk
import HandS.NestedK
import PySem.Challenge.RW_wareyard_k83_whole_registries_that_part
set_option Elab.async false
set_option linter.all false
set_option maxRecDepth 100000
set_option maxHeartbeats 4000000
/-! A store of one's own over the hand layer: data, cells, states, and what is wanted of a piece of the text. -/
namespace Ab
open PySem PySem.Spec PyProof.Rows L2

/-- a value seen from outside: data as it stands for good, or a pointer at a cell that may change -/
inductive D where
  | non | bl (b : Bool) | int (i : Int) | str (s : Str) | ref (a : Addr) | ty (n : String) | ptr (l : Nat)
  | tup (xs : List D) | ptup (xs : List D) | lst (xs : List D) | dic (n : Bool) (ks vs : List D)
/-- what may change -/
inductive Cell where
  | lst (xs : List D) | dic (n : Bool) (ks vs : List D) | ins (C : Addr) (fs : List (Str × D)) | frz (o : Obj) (kvV : List (Key × V)) (kvs : List (Key × D)) | tbl (P : Addr) (q : Str) | dead

/-- what all contexts of one law share -/
structure Gd where
  P : Program
  w : World
  K : PySem.W.Frag

mutual
def nkD : NestedKey → D
  | .none => .non
  | .num i => .int i
  | .text x => .str x
  | .tup ks => .tup (nkDs ks)
def nkDs : List NestedKey → List D
  | [] => []
  | k :: ks => nkD k :: nkDs ks
end
def keyD : Key → D
  | .inl i => .int i
  | .inr s => .str s

/-- the object at a is a dict with these entries -/
def DicObj (g : Gd) (a : Addr) (xs : List (NestedKey × Addr × Value)) (h : Heap) : Prop :=
  ∃ o es ep, h.get? a = some o ∧ o.ExactDict ∧ o.data = .dict es ep ∧ es.toList = xs.map (entryOfKey (nestedKind g.P g.w)) ∧ (xs.map (·.1)).Nodup ∧ (∀ x ∈ xs, x.1.depth ≤ 8) ∧ (a == sysModules) = false ∧ xs.length ≤ sizeLine

/-- an abstract dict: the keys as values, as data, the values -/
inductive DO (g : Gd) (a : Addr) : Bool → HO → List V → List D → List V → Prop
  | k (kvs : List (Key × V)) : DO g a false (.dK kvs) (kvs.map fun p => kV p.1) (kvs.map fun p => keyD p.1) (kvs.map fun p => p.2)
  | n (xs : List (NestedKey × Addr × Value)) (uv : List V) : Vals uv (xs.map fun x => x.2.2) → DO g a true (.ext (DicObj g a xs)) (xs.map fun x => .ref x.2.1) (xs.map fun x => nkD x.1) uv

mutual
inductive Rp (g : Gd) (M : Hp) (ρ : List Addr) : V → D → Prop
  | non : Rp g M ρ .non .non
  | bl (b : Bool) : Rp g M ρ (.bl b) (.bl b)
  | int (i : Int) : Rp g M ρ (.int i) (.int i)
  | str (s : Str) : Rp g M ρ (.str s) (.str s)
  | ref (a : Addr) : Rp g M ρ (.ref a) (.ref a)
  | ty (n : String) : Rp g M ρ (.ty n) (.ty n)
  | ptr {l : Nat} {a : Addr} : ρ[l]? = some a → Rp g M ρ (.ref a) (.ptr l)
  | tup {a : Addr} {vs : List V} {ds : List D} : SqT g.K M a vs → Rps g M ρ vs ds → Rp g M ρ (.ref a) (.tup ds)
  | ptup {a : Addr} {vs : List V} {ds : List D} {o : Obj} : M a = some (.frz o (.tup vs)) → o.dict = none → Rps g M ρ vs ds → Rp g M ρ (.ref a) (.ptup ds)
  | lst {a : Addr} {vs : List V} {ds : List D} : SqL g.K M a vs → Rps g M ρ vs ds → Rp g M ρ (.ref a) (.lst ds)
  | dic {a : Addr} {n : Bool} {ho : HO} {kv vv : List V} {ks vs : List D} : M a = some ho → DO g a n ho kv ks vv → Rps g M ρ kv ks → Rps g M ρ vv vs → Rp g M ρ (.ref a) (.dic n ks vs)
inductive Rps (g : Gd) (M : Hp) (ρ : List Addr) : List V → List D → Prop
  | nil : Rps g M ρ [] []
  | cons {v : V} {vs : List V} {d : D} {ds : List D} : Rp g M ρ v d → Rps g M ρ vs ds → Rps g M ρ (v :: vs) (d :: ds)
end

theorem seqT {K : PySem.W.Frag} {H H' : Hp} {a : Addr} {xs : List V} (e : Same H H') (h : SqT K H a xs) : SqT K H' a xs := by
  rcases h with (h | ⟨o, h⟩) | h
  · exact .inl (.inl (e _ _ h))
  · exact .inl (.inr ⟨o, e _ _ h⟩)
  · exact .inr h
section
variable {g : Gd} {M M' : Hp} {ρ ρ' : List Addr}
mutual
theorem Rp.mono (hm : ∀ a o, M a = some o → M' a = some o) (hr : ∀ (l : Nat) (a : Addr), ρ[l]? = some a → ρ'[l]? = some a) : ∀ (d : D) (v : V), Rp g M ρ v d → Rp g M' ρ' v d
  | .non, _, h => by cases h; exact .non
  | .bl _, _, h => by cases h; exact .bl _
  | .int _, _, h => by cases h; exact .int _
  | .str _, _, h => by cases h; exact .str _
  | .ref _, _, h => by cases h; exact .ref _
  | .ty _, _, h => by cases h; exact .ty _
  | .ptr _, _, h => by cases h with | ptr e => exact .ptr (hr _ _ e)
  | .tup ds, _, h => by cases h with | tup s r => exact .tup (seqT hm s) (Rps.mono hm hr ds _ r)
  | .ptup ds, _, h => by cases h with | ptup s n r => exact .ptup (hm _ _ s) n (Rps.mono hm hr ds _ r)
  | .lst ds, _, h => by cases h with | lst s r => exact .lst (Same.seq hm s) (Rps.mono hm hr ds _ r)
  | .dic n ks vs, _, h => by cases h with | dic e o r1 r2 => exact .dic (hm _ _ e) o (Rps.mono hm hr ks _ r1) (Rps.mono hm hr vs _ r2)
theorem Rps.mono (hm : ∀ a o, M a = some o → M' a = some o) (hr : ∀ (l : Nat) (a : Addr), ρ[l]? = some a → ρ'[l]? = some a) : ∀ (ds : List D) (vs : List V), Rps g M ρ vs ds → Rps g M' ρ' vs ds
  | [], _, h => by cases h; exact .nil
  | d :: ds, _, h => by cases h with | cons r t => exact .cons (Rp.mono hm hr d _ r) (Rps.mono hm hr ds _ t)
end
end
section
variable {g : Gd} {M M' : Hp} {ρ ρ' : List Addr}
theorem Rps.length : ∀ {vs : List V} {ds : List D}, Rps g M ρ vs ds → vs.length = ds.length
  | _, _, .nil => rfl
  | _, _, .cons _ t => congrArg Nat.succ t.length
theorem Rps.get : ∀ {vs : List V} {ds : List D} {i : Nat} {d : D}, Rps g M ρ vs ds → ds[i]? = some d → ∃ v, vs[i]? = some v ∧ Rp g M ρ v d
  | _, _, _, _, .nil, e => by simp at e
  | _, _, 0, _, .cons r _, e => by simp at e; subst e; exact ⟨_, rfl, r⟩
  | _, _, i + 1, d, .cons _ t, e => by
    obtain ⟨v, h1, h2⟩ := Rps.get (i := i) (d := d) t (by simpa using e)
    exact ⟨v, by simpa using h1, h2⟩
theorem Rps.getV : ∀ {vs : List V} {ds : List D} {i : Nat} {v : V}, Rps g M ρ vs ds → vs[i]? = some v → ∃ d, ds[i]? = some d ∧ Rp g M ρ v d
  | _, _, _, _, .nil, e => by simp at e
  | _, _, 0, _, .cons r _, e => by simp at e; subst e; exact ⟨_, rfl, r⟩
  | _, _, i + 1, d, .cons _ t, e => by
    obtain ⟨v, h1, h2⟩ := Rps.getV (i := i) (v := d) t (by simpa using e)
    exact ⟨v, by simpa using h1, h2⟩
theorem Rps.append : ∀ {vs us : List V} {ds es : List D}, Rps g M ρ vs ds → Rps g M ρ us es → Rps g M ρ (vs ++ us) (ds ++ es)
  | _, _, _, _, .nil, h => h
  | _, _, _, _, .cons r t, h => .cons r (t.append h)
theorem Rps.take : ∀ {vs : List V} {ds : List D} (n : Nat), Rps g M ρ vs ds → Rps g M ρ (vs.take n) (ds.take n)
  | _, _, 0, _ => .nil
  | _, _, _ + 1, .nil => .nil
  | _, _, n + 1, .cons r t => .cons r (t.take n)
theorem Rps.drop : ∀ {vs : List V} {ds : List D} (n : Nat), Rps g M ρ vs ds → Rps g M ρ (vs.drop n) (ds.drop n)
  | _, _, 0, h => h
  | _, _, _ + 1, .nil => .nil
  | _, _, n + 1, .cons _ t => t.drop n
theorem Rps.set {v : V} {d : D} (r : Rp g M ρ v d) : ∀ {vs : List V} {ds : List D} (i : Nat), Rps g M ρ vs ds → Rps g M ρ (vs.set i v) (ds.set i d)
  | _, _, _, .nil => .nil
  | _, _, 0, .cons _ t => .cons r t
  | _, _, i + 1, .cons q t => .cons q (Rps.set r i t)
theorem Rps.of_get : ∀ {vs : List V} {ds : List D}, vs.length = ds.length → (∀ (i : Nat) (v : V) (d : D), vs[i]? = some v → ds[i]? = some d → Rp g M ρ v d) → Rps g M ρ vs ds
  | [], [], _, _ => .nil
  | [], _ :: _, h, _ => by cases h
  | _ :: _, [], h, _ => by cases h
  | v :: vs, d :: ds, h, k => .cons (k 0 v d rfl rfl) (Rps.of_get (Nat.succ.inj h) fun i v d e1 e2 => k (i + 1) v d (by simpa using e1) (by simpa using e2))
end

/-! ### states -/
inductive CellAt (g : Gd) (M H : Hp) (ρ : List Addr) (a : Addr) : Cell → Prop
  | lst {vs : List V} {ds : List D} : H a = some (.lst vs) → Rps g M ρ vs ds → CellAt g M H ρ a (.lst ds)
  | dic {n : Bool} {ho : HO} {kv vv : List V} {ks vs : List D} : H a = some ho → DO g a n ho kv ks vv → Rps g M ρ kv ks → Rps g M ρ vv vs → CellAt g M H ρ a (.dic n ks vs)
  | ins {C dx : Addr} {fv : List (Str × V)} {fs : List (Str × D)} : H a = some (.ins C dx fv) → fv.map (fun p => p.1) = fs.map (fun p => p.1) → Rps g M ρ (fv.map fun p => p.2) (fs.map fun p => p.2) → CellAt g M H ρ a (.ins C fs)
  | frz {o : Obj} {kvV : List (Key × V)} {kvs : List (Key × D)} : H a = some (.frz o (.dK kvV)) → kvV.map (fun p => p.1) = kvs.map (fun p => p.1) → Rps g M ρ (kvV.map fun p => p.2) (kvs.map fun p => p.2) → CellAt g M H ρ a (.frz o kvV kvs)
  | tbl {q : Str} {P : Addr} {ps : Array Value} : a = P → H a = some (.tbl ps) → TriplesOk ps.toList → (∀ (pos : Pos) (cv : Value), codeAmong pos ps.toList = some cv → ∃ c, cv = .ref c ∧ M c = some (LamX.CodeO c q)) → CellAt g M H ρ a (.tbl P q)
  | dead : CellAt g M H ρ a .dead
def Live (S : List Cell) (ρ : List Addr) (a : Addr) : Prop := ∃ (l : Nat) (c : Cell), S[l]? = some c ∧ c ≠ .dead ∧ ρ[l]? = some a
structure Ok (g : Gd) (S : List Cell) (ρ : List Addr) (M H : Hp) : Prop where
  len : ρ.length = S.length
  sub : Same M H
  at_ : ∀ (l : Nat) (c : Cell) (a : Addr), S[l]? = some c → ρ[l]? = some a → CellAt g M H ρ a c
  out : ∀ a, Live S ρ a → M a = none
  inj : ∀ (l l' : Nat) (c c' : Cell) (a : Addr), S[l]? = some c → S[l']? = some c' → c ≠ .dead → c' ≠ .dead → ρ[l]? = some a → ρ[l']? = some a → l = l'
/-- a piece of the run: from one state to another one -/
structure To (S : List Cell) (ρ : List Addr) (M H : Hp) (S' : List Cell) (ρ' : List Addr) (M' H' : Hp) : Prop where
  pre : ∀ (l : Nat) (a : Addr), ρ[l]? = some a → ρ'[l]? = some a
  pm : Same M M'
  fr : ∀ a o, H a = some o → ¬ Live S ρ a → H' a = some o
  nw : ∀ a, M' a ≠ none → M a ≠ none ∨ H a = none ∨ Live S ρ a
  lv : ∀ a, Live S' ρ' a → H a = none ∨ Live S ρ a
/-- what a source asks: pointers stay, what stands for good stays -/
structure Up (ρ : List Addr) (M : Hp) (ρ' : List Addr) (M' : Hp) : Prop where
  pre : ∀ (l : Nat) (a : Addr), ρ[l]? = some a → ρ'[l]? = some a
  pm : Same M M'
theorem Up.refl {ρ : List Addr} {M : Hp} : Up ρ M ρ M := ⟨fun _ _ h => h, fun _ _ h => h⟩
theorem Up.trans {ρ ρ1 ρ2 : List Addr} {M M1 M2 : Hp} (a : Up ρ M ρ1 M1) (b : Up ρ1 M1 ρ2 M2) : Up ρ M ρ2 M2 := ⟨fun l x h => b.pre l x (a.pre l x h), fun x o h => b.pm x o (a.pm x o h)⟩
theorem Up.rp {g : Gd} {ρ ρ' : List Addr} {M M' : Hp} (t : Up ρ M ρ' M') {v : V} {d : D} (h : Rp g M ρ v d) : Rp g M' ρ' v d := Rp.mono t.pm t.pre d v h
theorem Up.rps {g : Gd} {ρ ρ' : List Addr} {M M' : Hp} (t : Up ρ M ρ' M') {v : List V} {d : List D} (h : Rps g M ρ v d) : Rps g M' ρ' v d := Rps.mono t.pm t.pre d v h
theorem To.up {S S' : List Cell} {ρ ρ' : List Addr} {M M' H H' : Hp} (t : To S ρ M H S' ρ' M' H') : Up ρ M ρ' M' := ⟨t.pre, t.pm⟩
theorem To.refl {S : List Cell} {ρ : List Addr} {M H : Hp} : To S ρ M H S ρ M H := ⟨fun _ _ h => h, fun _ _ h => h, fun _ _ h _ => h, fun _ h => .inl h, fun _ h => .inr h⟩
theorem To.trans {S S1 S2 : List Cell} {ρ ρ1 ρ2 : List Addr} {M M1 M2 H H1 H2 : Hp} (a : To S ρ M H S1 ρ1 M1 H1) (b : To S1 ρ1 M1 H1 S2 ρ2 M2 H2) : To S ρ M H S2 ρ2 M2 H2 where
  pre := fun l x h => b.pre l x (a.pre l x h)
  pm := fun x o h => b.pm x o (a.pm x o h)
  fr := fun x o h n => b.fr x o (a.fr x o h n) fun q => (a.lv x q).elim (fun z => by rw [h] at z; cases z) n
  nw := fun x h => by
    rcases b.nw x h with z | z | z
    · exact a.nw x z
    · cases q : H x with
      | none => exact .inr (.inl rfl)
      | some o =>
        refine .inr (.inr (Classical.byContradiction fun n => ?_))
        rw [a.fr x o q n] at z
        cases z
    · rcases a.lv x z with y | y
      · exact .inr (.inl y)
      · exact .inr (.inr y)
  lv := fun x h => by
    rcases b.lv x h with z | z
    · cases q : H x with
      | none => exact .inl rfl
      | some o =>
        refine .inr (Classical.byContradiction fun n => ?_)
        rw [a.fr x o q n] at z
        cases z
    · exact a.lv x z
section
variable {g : Gd} {S S' : List Cell} {ρ ρ' : List Addr} {M M' H H' : Hp}
theorem To.rp (t : To S ρ M H S' ρ' M' H') {v : V} {d : D} (h : Rp g M ρ v d) : Rp g M' ρ' v d := Rp.mono t.pm t.pre d v h
theorem To.rps (t : To S ρ M H S' ρ' M' H') {v : List V} {d : List D} (h : Rps g M ρ v d) : Rps g M' ρ' v d := Rps.mono t.pm t.pre d v h
/-- what the slots hold -/
structure Slots (g : Gd) (M : Hp) (ρ : List Addr) (σ : L2.St) (Γ : List (Option D)) : Prop where
  len : σ.length = Γ.length
  at_ : ∀ (i : Nat) (d : D), Γ[i]? = some (some d) → ∃ v, σ[i]? = some (some v) ∧ Rp g M ρ v d
theorem To.slots (t : To S ρ M H S' ρ' M' H') {σ : L2.St} {Γ : List (Option D)} (h : Slots g M ρ σ Γ) : Slots g M' ρ' σ Γ :=
  ⟨h.len, fun i d e => let ⟨v, e1, r⟩ := h.at_ i d e; ⟨v, e1, t.rp r⟩⟩
theorem Slots.set {σ : L2.St} {Γ : List (Option D)} (h : Slots g M ρ σ Γ) {v : V} {d : D} (r : Rp g M ρ v d) (i : Nat) : Slots g M ρ (σ.set i (some v)) (Γ.set i (some d)) := by
  refine ⟨by rw [List.length_set, List.length_set]; exact h.len, fun j x e => ?_⟩
  by_cases hj : i = j
  · subst hj
    have hi : i < Γ.length := by
      have := (List.getElem?_eq_some_iff.mp e).1
      rw [List.length_set] at this
      exact this
    rw [List.getElem?_set_self hi] at e
    cases e
    exact ⟨v, List.getElem?_set_self (by rw [h.len]; exact hi), r⟩
  · rw [List.getElem?_set_ne hj] at e
    obtain ⟨u, e1, r1⟩ := h.at_ j x e
    exact ⟨u, by rw [List.getElem?_set_ne hj]; exact e1, r1⟩
theorem CellAt.mono {a : Addr} {c : Cell} (hm : Same M M') (hr : ∀ (l : Nat) (a : Addr), ρ[l]? = some a → ρ'[l]? = some a) (he : ∀ o, H a = some o → H' a = some o) (h : CellAt g M H ρ a c) : CellAt g M' H' ρ' a c := by
  cases h with
  | lst e r => exact .lst (he _ e) (Rps.mono hm hr _ _ r)
  | dic e o r1 r2 => exact .dic (he _ e) o (Rps.mono hm hr _ _ r1) (Rps.mono hm hr _ _ r2)
  | ins e n r => exact .ins (he _ e) n (Rps.mono hm hr _ _ r)
  | frz e n r => exact .frz (he _ e) n (Rps.mono hm hr _ _ r)
  | tbl z e t k => exact .tbl z (he _ e) t fun p v h => let ⟨c, e1, e2⟩ := k p v h; ⟨c, e1, hm _ _ e2⟩
  | dead => exact .dead
theorem CellAt.there {a : Addr} {c : Cell} (h : CellAt g M H ρ a c) (n : c ≠ .dead) : ∃ o, H a = some o := by
  cases h with
  | lst e r => exact ⟨_, e⟩
  | dic e o r1 r2 => exact ⟨_, e⟩
  | ins e _ r => exact ⟨_, e⟩
  | frz e _ _ => exact ⟨_, e⟩
  | tbl _ e _ _ => exact ⟨_, e⟩
  | dead => exact absurd rfl n
theorem Ok.live (k : Ok g S ρ M H) {a : Addr} (h : Live S ρ a) : ∃ o, H a = some o := by
  obtain ⟨l, c, e, n, r⟩ := h
  exact (k.at_ l c a e r).there n

/-- something new that stands for good -/
theorem Ok.keep (k : Ok g S ρ M H) {p : Addr} {o : HO} (hp : H p = none) : Ok g S ρ (upd M p o) (upd H p o) ∧ To S ρ M H S ρ (upd M p o) (upd H p o) := by
  have np : ∀ a, Live S ρ a → a ≠ p := fun a h e => by
    obtain ⟨o, q⟩ := k.live h
    rw [e, hp] at q
    cases q
  have pm : Same M (upd M p o) := fun a u e => by
    rw [upd_ne (ne_of_none (k.sub a u e) hp)]
    exact e
  refine ⟨⟨k.len, fun a u e => ?_, fun l c a e r => ?_, fun a h => ?_, k.inj⟩, ⟨fun _ _ h => h, pm, fun a u e _ => ?_, fun a h => ?_, fun a h => .inr h⟩⟩
  · by_cases h : a = p
    · subst h
      rw [upd_same] at e ⊢
      exact e
    · rw [upd_ne h] at e ⊢
      exact k.sub a u e
  · by_cases hd : c = .dead
    · subst hd; exact .dead
    · exact (k.at_ l c a e r).mono pm (fun _ _ h => h) fun u q => by
        rw [upd_ne (np a ⟨l, c, e, hd, r⟩)]
        exact q
  · rw [upd_ne (np a h)]
    exact k.out a h
  · rw [upd_ne (ne_of_none e hp)]
    exact e
  · by_cases q : a = p
    · subst q
      exact .inr (.inl hp)
    · rw [upd_ne q] at h
      exact .inl h
/-- a new cell -/
theorem Ok.more (k : Ok g S ρ M H) {p : Addr} {o : HO} {c : Cell} (hp : H p = none) (hc : CellAt g M (upd H p o) (ρ ++ [p]) p c) : Ok g (S ++ [c]) (ρ ++ [p]) M (upd H p o) ∧ To S ρ M H (S ++ [c]) (ρ ++ [p]) M (upd H p o) := by
  have pre : ∀ (l : Nat) (a : Addr), ρ[l]? = some a → (ρ ++ [p])[l]? = some a := fun l a h => by
    rw [List.getElem?_append_left (List.getElem?_eq_some_iff.mp h).1]
    exact h
  have spl : ∀ (l : Nat) (x : Cell) (a : Addr), (S ++ [c])[l]? = some x → (ρ ++ [p])[l]? = some a → (S[l]? = some x ∧ ρ[l]? = some a) ∨ (l = S.length ∧ x = c ∧ a = p) := fun l x a e r => by
    by_cases hl : l < S.length
    · rw [List.getElem?_append_left hl] at e
      rw [List.getElem?_append_left (by rw [k.len]; exact hl)] at r
      exact .inl ⟨e, r⟩
    · have hl2 : l = S.length := by
        have := (List.getElem?_eq_some_iff.mp e).1
        rw [List.length_append] at this
        simp only [List.length_singleton] at this
        omega
      subst hl2
      rw [List.getElem?_append_right (Nat.le_refl _)] at e
      rw [← k.len, List.getElem?_append_right (Nat.le_refl _)] at r
      simp only [Nat.sub_self, List.getElem?_cons_zero, Option.some.injEq] at e r
      exact .inr ⟨rfl, e.symm, r.symm⟩
  have np : ∀ a, Live S ρ a → a ≠ p := fun a h e => by
    obtain ⟨o, q⟩ := k.live h
    rw [e, hp] at q
    cases q
  have mp : M p = none := by
    cases q : M p with
    | none => rfl
    | some u =>
      have := k.sub p u q
      rw [hp] at this
      cases this
  refine ⟨⟨by rw [List.length_append, List.length_append, k.len] <;> rfl, fun a u e => ?_, fun l x a e r => ?_, fun a h => ?_, fun l l' x x' a e e' n n' r r' => ?_⟩, ⟨pre, fun _ _ h => h, fun a u e _ => ?_, fun a h => .inl h, fun a h => ?_⟩⟩
  · rw [upd_ne (ne_of_none (k.sub a u e) hp)]
    exact k.sub a u e
  · rcases spl l x a e r with ⟨e, r⟩ | ⟨_, rfl, rfl⟩
    · by_cases hd : x = .dead
      · subst hd; exact .dead
      · exact (k.at_ l x a e r).mono (fun _ _ h => h) pre fun u q => by
          rw [upd_ne (np a ⟨l, x, e, hd, r⟩)]
          exact q
    · exact hc
  · obtain ⟨l, x, e, n, r⟩ := h
    rcases spl l x a e r with ⟨e, r⟩ | ⟨_, rfl, rfl⟩
    · exact k.out a ⟨l, x, e, n, r⟩
    · exact mp
  · rcases spl l x a e r with ⟨e2, r2⟩ | ⟨q, _, qa⟩
    · rcases spl l' x' a e' r' with ⟨e3, r3⟩ | ⟨q, _, qa⟩
      · exact k.inj l l' x x' a e2 e3 n n' r2 r3
      · exact absurd qa (np _ ⟨l, x, e2, n, r2⟩)
    · rcases spl l' x' a e' r' with ⟨e3, r3⟩ | ⟨q3, _, _⟩
      · exact absurd qa (np _ ⟨l', x', e3, n', r3⟩)
      · rw [q, q3]
  · rw [upd_ne (ne_of_none e hp)]
    exact e
  · obtain ⟨l, x, e, n, r⟩ := h
    rcases spl l x a e r with ⟨e, r⟩ | ⟨_, rfl, rfl⟩
    · exact .inr ⟨l, x, e, n, r⟩
    · exact .inl hp
/-- a cell is written -/
theorem Ok.put (k : Ok g S ρ M H) {l : Nat} {a : Addr} {o : HO} {c c' : Cell} (hl : S[l]? = some c) (nd : c ≠ .dead) (hr : ρ[l]? = some a) (hc : CellAt g M (upd H a o) ρ a c') : Ok g (S.set l c') ρ M (upd H a o) ∧ To S ρ M H (S.set l c') ρ M (upd H a o) := by
  have la : Live S ρ a := ⟨l, c, hl, nd, hr⟩
  have hlt : l < S.length := (List.getElem?_eq_some_iff.mp hl).1
  have spl : ∀ (j : Nat) (x : Cell), (S.set l c')[j]? = some x → (j ≠ l ∧ S[j]? = some x) ∨ (j = l ∧ x = c') := fun j x e => by
    by_cases h : l = j
    · subst h
      rw [List.getElem?_set_self hlt] at e
      cases e
      exact .inr ⟨rfl, rfl⟩
    · rw [List.getElem?_set_ne h] at e
      exact .inl ⟨Ne.symm h, e⟩
  have ma := k.out a la
  have liv : ∀ b, Live (S.set l c') ρ b → Live S ρ b := fun b ⟨j, x, e, n, r⟩ => by
    rcases spl j x e with ⟨_, e⟩ | ⟨rfl, rfl⟩
    · exact ⟨j, x, e, n, r⟩
    · rw [hr] at r
      cases r
      exact la
  refine ⟨⟨by rw [List.length_set]; exact k.len, fun b u e => ?_, fun j x b e r => ?_, fun b h => k.out b (liv b h), fun j j' x x' b e e' n n' r r' => ?_⟩, ⟨fun _ _ h => h, fun _ _ h => h, fun b u e n => ?_, fun b h => .inl h, fun b h => .inr (liv b h)⟩⟩
  · have : b ≠ a := fun q => by
      rw [q, ma] at e
      cases e
    rw [upd_ne this]
    exact k.sub b u e
  · rcases spl j x e with ⟨hj, e⟩ | ⟨rfl, rfl⟩
    · by_cases hd : x = .dead
      · subst hd; exact .dead
      · have : b ≠ a := fun q => hj (k.inj j l x c b e hl hd nd r (by rw [q]; exact hr))
        exact (k.at_ j x b e r).mono (fun _ _ h => h) (fun _ _ h => h) fun u q => by
          rw [upd_ne this]
          exact q
    · rw [hr] at r
      cases r
      exact hc
  · rcases spl j x e with ⟨hj, e2⟩ | ⟨q, q2⟩
    · rcases spl j' x' e' with ⟨hj', e3⟩ | ⟨q, q2⟩
      · exact k.inj j j' x x' b e2 e3 n n' r r'
      · rw [q, hr] at r'
        cases r'
        exact absurd (k.inj j l x c a e2 hl n nd r hr) hj
    · rcases spl j' x' e' with ⟨hj', e3⟩ | ⟨q3, q4⟩
      · rw [q, hr] at r
        cases r
        exact absurd (k.inj j' l x' c a e3 hl n' nd r' hr) hj'
      · rw [q, q3]
  · have : b ≠ a := fun q => n (by rw [q]; exact la)
    rw [upd_ne this]
    exact e
end
end Ab
set_option Elab.async false
set_option linter.all false
set_option maxRecDepth 100000
set_option maxHeartbeats 4000000
/-! What is wanted of expressions, tests, arguments, targets, statements, over the store. -/
namespace Ab
open PySem PySem.Spec PyProof.Rows L2

abbrev gd (X : Cx) : Gd := ⟨X.prog, X.w, X.K⟩
/-- an exception: its class, its fields -/
structure Xn where
  C : Addr
  fs : List (Str × D)
abbrev XP := Xn → List (Option D) → List Cell → Prop
def XRep (g : Gd) (M H : Hp) (ρ : List Addr) (x : Xn) (od : Option Addr) : Prop :=
  (x.fs = [] ∧ od = none) ∨ ∃ (d : Addr) (fv : List (Str × V)), od = some d ∧ H d = some (.xd fv) ∧ fv.map (fun p => p.1) = x.fs.map (fun p => p.1) ∧ Rps g M ρ (fv.map fun p => p.2) (x.fs.map fun p => p.2)
/-- what is wanted behind a value -/
def Kv (g : Gd) (S : List Cell) (ρ : List Addr) (M H : Hp) (Φ : D → List Cell → Prop) (Q : VK) : Prop :=
  ∀ d S' v ρ' M' H', Φ d S' → To S ρ M H S' ρ' M' H' → Ok g S' ρ' M' H' → Rp g M' ρ' v d → Q v H'
def Kb (g : Gd) (S : List Cell) (ρ : List Addr) (M H : Hp) (Φ : Bool → List Cell → Prop) (Q : Bool → Hp → Prop) : Prop :=
  ∀ b S' ρ' M' H', Φ b S' → To S ρ M H S' ρ' M' H' → Ok g S' ρ' M' H' → Q b H'
def Ka (g : Gd) (S : List Cell) (ρ : List Addr) (M H : Hp) (Φ : List D → List Cell → Prop) (Q : List V → Hp → Prop) : Prop :=
  ∀ ds S' vs ρ' M' H', Φ ds S' → To S ρ M H S' ρ' M' H' → Ok g S' ρ' M' H' → Rps g M' ρ' vs ds → Q vs H'
/-- behind an exception -/
def Kx (g : Gd) (S : List Cell) (ρ : List Addr) (M H : Hp) (Ξ : XP) (W : WX) : Prop :=
  ∀ x Γ' S' σ' ρ' M' H' od, Ξ x Γ' S' → To S ρ M H S' ρ' M' H' → Ok g S' ρ' M' H' → Slots g M' ρ' σ' Γ' → XRep g M' H' ρ' x od → W (.ref x.C) od σ' H'
def Kn (g : Gd) (S : List Cell) (ρ : List Addr) (M H : Hp) (Φ : List (Option D) → List Cell → Prop) (Q : L2.St → Hp → Prop) : Prop :=
  ∀ Γ' S' σ' ρ' M' H', Φ Γ' S' → To S ρ M H S' ρ' M' H' → Ok g S' ρ' M' H' → Slots g M' ρ' σ' Γ' → Q σ' H'
section
variable {g : Gd} {S S' : List Cell} {ρ ρ' : List Addr} {M M' H H' : Hp}
theorem Kv.to {Φ : D → List Cell → Prop} {Q : VK} (t : To S ρ M H S' ρ' M' H') (k : Kv g S ρ M H Φ Q) : Kv g S' ρ' M' H' Φ Q := fun d S2 v ρ2 M2 H2 p t2 => k d S2 v ρ2 M2 H2 p (t.trans t2)
theorem Kb.to {Φ : Bool → List Cell → Prop} {Q : Bool → Hp → Prop} (t : To S ρ M H S' ρ' M' H') (k : Kb g S ρ M H Φ Q) : Kb g S' ρ' M' H' Φ Q := fun d S2 ρ2 M2 H2 p t2 => k d S2 ρ2 M2 H2 p (t.trans t2)
theorem Ka.to {Φ : List D → List Cell → Prop} {Q : List V → Hp → Prop} (t : To S ρ M H S' ρ' M' H') (k : Ka g S ρ M H Φ Q) : Ka g S' ρ' M' H' Φ Q := fun d S2 v ρ2 M2 H2 p t2 => k d S2 v ρ2 M2 H2 p (t.trans t2)
theorem Kx.to {Ξ : XP} {W : WX} (t : To S ρ M H S' ρ' M' H') (k : Kx g S ρ M H Ξ W) : Kx g S' ρ' M' H' Ξ W := fun x Γ2 S2 σ2 ρ2 M2 H2 od p t2 => k x Γ2 S2 σ2 ρ2 M2 H2 od p (t.trans t2)
theorem Kn.to {Φ : List (Option D) → List Cell → Prop} {Q : L2.St → Hp → Prop} (t : To S ρ M H S' ρ' M' H') (k : Kn g S ρ M H Φ Q) : Kn g S' ρ' M' H' Φ Q := fun Γ2 S2 σ2 ρ2 M2 H2 p t2 => k Γ2 S2 σ2 ρ2 M2 H2 p (t.trans t2)
end

/-! ### the semantic readings -/
def sE (X : Cx) (e : Expr) : TE := fun σ H Q => ∀ (pins : List (Addr × Obj)) (s : Shared), Inv X pins σ H s → wpAny (model X.prog X.w) X.A (eval e X.env) (EP X pins σ Q) X.xe s
def sT (X : Cx) (e : Expr) : TT := fun σ H Q => ∀ (pins : List (Addr × Obj)) (s : Shared), Inv X pins σ H s → wpAny (model X.prog X.w) X.A (isTrue e X.env (eval e X.env)) (TP X pins σ Q) X.xe s
def sA (X : Cx) (es : List Expr) : TA := fun σ H Q => ∀ (pos : Pos) (pins : List (Addr × Obj)) (s : Shared), Inv X pins σ H s → wpAny (model X.prog X.w) X.A (spliced (backTo pos (starEach es X.env))) (AP X pins σ Q) X.xe s
def sG (X : Cx) (tg : Expr) : TG := fun v σ H Q => ∀ (pins : List (Addr × Obj)) (s : Shared) (u : Value), Inv X pins σ H s → RelV v u → wpAny (model X.prog X.w) X.A (assign tg X.env u) (fun _ s' => ∃ σ' H', Inv X pins σ' H' s' ∧ Q σ' H') X.xe s
def sS (X : Cx) (st : Stmt) : TS := fun D σ H => ∀ (pins : List (Addr × Obj)) (s : Shared), Inv X pins σ H s → wpAny (model X.prog X.w) X.A (exec st X.env) (SP X pins D) X.xe s
def sB (X : Cx) (sts : List Stmt) : TS := fun D σ H => ∀ (pins : List (Addr × Obj)) (s : Shared), Inv X pins σ H s → wpAny (model X.prog X.w) X.A (execs sts X.env) (SP X pins D) X.xe s
section
variable {X : Cx}
theorem pe_s (e : Expr) : PE X e (sE X e) := ⟨fun pins s _ _ _ I h => h pins s I⟩
theorem pt_s (e : Expr) : PT X e (sT X e) := ⟨fun pins s _ _ _ I h => h pins s I⟩
theorem pa_s (es : List Expr) : PA X es (sA X es) := ⟨fun pos pins s _ _ _ I h => h pos pins s I⟩
theorem pg_s (e : Expr) : PG X e (sG X e) := ⟨fun pins s _ _ _ u _ I r h => h pins s u I r⟩
theorem ps_s (st : Stmt) : PS X st (sS X st) := ⟨fun pins s _ _ _ I h => h pins s I⟩
theorem pb_s (sts : List Stmt) : PSs X sts (sB X sts) := ⟨fun pins s _ _ _ I h => h pins s I⟩
theorem PE.s {e : Expr} {t : TE} (p : PE X e t) {σ : L2.St} {H : Hp} {Q : VK} (h : t σ H Q) : sE X e σ H Q := fun pins s I => p.run pins s σ H Q I h
theorem PT.s {e : Expr} {t : TT} (p : PT X e t) {σ : L2.St} {H : Hp} {Q : Bool → Hp → Prop} (h : t σ H Q) : sT X e σ H Q := fun pins s I => p.run pins s σ H Q I h
theorem PA.s {e : List Expr} {t : TA} (p : PA X e t) {σ : L2.St} {H : Hp} {Q : List V → Hp → Prop} (h : t σ H Q) : sA X e σ H Q := fun pos pins s I => p.run pos pins s σ H Q I h
theorem PG.s {e : Expr} {t : TG} (p : PG X e t) {v : V} {σ : L2.St} {H : Hp} {Q : L2.St → Hp → Prop} (h : t v σ H Q) : sG X e v σ H Q := fun pins s u I r => p.run pins s σ H v u Q I r h
theorem PS.s {st : Stmt} {t : TS} (p : PS X st t) {D : Ends} {σ : L2.St} {H : Hp} (h : t D σ H) : sS X st D σ H := fun pins s I => p.run pins s σ H D I h
theorem PSs.s {sts : List Stmt} {t : TS} (p : PSs X sts t) {D : Ends} {σ : L2.St} {H : Hp} (h : t D σ H) : sB X sts D σ H := fun pins s I => p.run pins s σ H D I h
end

/-! ### what is wanted -/
def WE (X : Cx) (e : Expr) (Γ : List (Option D)) (S : List Cell) (Φ : D → List Cell → Prop) (Ξ : XP) : Prop :=
  ∀ σ ρ M H Q W, Ok (gd X) S ρ M H → Slots (gd X) M ρ σ Γ → Kv (gd X) S ρ M H Φ Q → Kx (gd X) S ρ M H Ξ W → Takes X W → sE X e σ H Q
def WT (X : Cx) (e : Expr) (Γ : List (Option D)) (S : List Cell) (Φ : Bool → List Cell → Prop) (Ξ : XP) : Prop :=
  ∀ σ ρ M H Q W, Ok (gd X) S ρ M H → Slots (gd X) M ρ σ Γ → Kb (gd X) S ρ M H Φ Q → Kx (gd X) S ρ M H Ξ W → Takes X W → sT X e σ H Q
def WA (X : Cx) (es : List Expr) (Γ : List (Option D)) (S : List Cell) (Φ : List D → List Cell → Prop) (Ξ : XP) : Prop :=
  ∀ σ ρ M H Q W, Ok (gd X) S ρ M H → Slots (gd X) M ρ σ Γ → Ka (gd X) S ρ M H Φ Q → Kx (gd X) S ρ M H Ξ W → Takes X W → sA X es σ H Q
def WG (X : Cx) (tg : Expr) (d : D) (Γ : List (Option D)) (S : List Cell) (Φ : List (Option D) → List Cell → Prop) (Ξ : XP) : Prop :=
  ∀ v σ ρ M H Q W, Ok (gd X) S ρ M H → Slots (gd X) M ρ σ Γ → Rp (gd X) M ρ v d → Kn (gd X) S ρ M H Φ Q → Kx (gd X) S ρ M H Ξ W → Takes X W → sG X tg v σ H Q
/-- what is wanted behind a statement -/
structure Post where
  nx : List (Option D) → List Cell → Prop
  rt : D → List Cell → Prop
  ex : XP
  bk : List (Option D) → List Cell → Prop := fun _ _ => False
  ct : List (Option D) → List Cell → Prop := fun _ _ => False
structure Sat (X : Cx) (P : Post) (E : Ends) (S : List Cell) (ρ : List Addr) (M H : Hp) : Prop where
  nx : Kn (gd X) S ρ M H P.nx E.nx
  rt : Kv (gd X) S ρ M H P.rt E.rt
  bk : Kn (gd X) S ρ M H P.bk E.bk
  ct : Kn (gd X) S ρ M H P.ct E.ct
  ex : ∃ W, Kx (gd X) S ρ M H P.ex W ∧ Takes X W
def WS (X : Cx) (st : Stmt) (Γ : List (Option D)) (S : List Cell) (P : Post) : Prop :=
  ∀ σ ρ M H E, Ok (gd X) S ρ M H → Slots (gd X) M ρ σ Γ → Sat X P E S ρ M H → sS X st E σ H
def WB (X : Cx) (sts : List Stmt) (Γ : List (Option D)) (S : List Cell) (P : Post) : Prop :=
  ∀ σ ρ M H E, Ok (gd X) S ρ M H → Slots (gd X) M ρ σ Γ → Sat X P E S ρ M H → sB X sts E σ H
theorem Sat.to {X : Cx} {P : Post} {E : Ends} {S S' : List Cell} {ρ ρ' : List Addr} {M M' H H' : Hp} (t : To S ρ M H S' ρ' M' H') (k : Sat X P E S ρ M H) : Sat X P E S' ρ' M' H' :=
  ⟨k.nx.to t, k.rt.to t, k.bk.to t, k.ct.to t, let ⟨W, a, b⟩ := k.ex; ⟨W, a.to t, b⟩⟩
/-- nothing is raised -/
abbrev noX : XP := fun _ _ _ => False

section
variable {X : Cx} {Γ : List (Option D)} {S : List Cell} {Φ Φ' : D → List Cell → Prop} {Ξ : XP} {a b e : Expr} {pos : Pos}
theorem WE.imp (h : WE X e Γ S Φ Ξ) (k : ∀ d S', Φ d S' → Φ' d S') : WE X e Γ S Φ' Ξ := fun σ ρ M H Q W ok sl kv kx tk => h σ ρ M H Q W ok sl (fun d S' v ρ' M' H' p => kv d S' v ρ' M' H' (k d S' p)) kx tk

/-! ### operations on values -/
/-- a one-place, a two-place operation; a call by values; a method by values -/
def R1s (g : Gd) (r : V → Hp → VK → Prop) (x : D) (S : List Cell) (Φ : D → List Cell → Prop) : Prop := ∀ ρ M H vx Q, Ok g S ρ M H → Rp g M ρ vx x → Kv g S ρ M H Φ Q → r vx H Q
def R2s (g : Gd) (r : R2) (x y : D) (S : List Cell) (Φ : D → List Cell → Prop) : Prop := ∀ ρ M H vx vy Q, Ok g S ρ M H → Rp g M ρ vx x → Rp g M ρ vy y → Kv g S ρ M H Φ Q → r vx vy H Q
def Rcs (g : Gd) (r : List V → Hp → VK → Prop) (xs : List D) (S : List Cell) (Φ : D → List Cell → Prop) : Prop := ∀ ρ M H vs Q, Ok g S ρ M H → Rps g M ρ vs xs → Kv g S ρ M H Φ Q → r vs H Q
def Rms (g : Gd) (r : V → List V → Hp → VK → Prop) (x : D) (xs : List D) (S : List Cell) (Φ : D → List Cell → Prop) : Prop := ∀ ρ M H vx vs Q, Ok g S ρ M H → Rp g M ρ vx x → Rps g M ρ vs xs → Kv g S ρ M H Φ Q → r vx vs H Q

/-! ### names, constants -/
theorem we_name (i : Nat) {x : Str} {d : D} (hΓ : Γ[i]? = some (some d)) (h : Φ d S) (hN : X.N[i]? = some x := by rfl) (hv : Vis X.env.scope x := by first | exact Or.inl rfl | exact Or.inr (Or.inl rfl) | exact Or.inr (Or.inr rfl)) (hd : (x == ("__debug__" : Str)) = false := by decide)
    (hcd : (x == ("__classdict__" : Str)) = false := by decide) : WE X (.Name x pos) Γ S Φ Ξ := fun σ ρ M H Q W ok sl kv kx tk => by
  obtain ⟨v, e1, r⟩ := sl.at_ i d hΓ
  exact PE.s (pe_var hN hv hd hcd) ⟨v, e1, kv d S v ρ M H h .refl ok r⟩
theorem we_glob {x : Str} {d : D} {v : V} {u : Value} (hg : Gl X x) (hm : X.mg x = some u) (r : RelV v u) (hr : ∀ M ρ, Rp (gd X) M ρ v d) (h : Φ d S) (hd : (x == ("__debug__" : Str)) = false := by decide) : WE X (.Name x pos) Γ S Φ Ξ := fun σ ρ M H Q W ok sl kv kx tk =>
  PE.s (pe_glob hg hm r hd) (kv d S v ρ M H h .refl ok (hr M ρ))
theorem we_int {i : Int} {j : Nat} (h : Φ (.int i) S) : WE X (.Constant (.int i) j pos) Γ S Φ Ξ := fun σ ρ M H Q W ok sl kv kx tk => PE.s pe_int (kv _ S _ ρ M H h .refl ok (.int i))
theorem we_bl {i : Bool} {j : Nat} (h : Φ (.bl i) S) : WE X (.Constant (.bool i) j pos) Γ S Φ Ξ := fun σ ρ M H Q W ok sl kv kx tk => PE.s pe_bl (kv _ S _ ρ M H h .refl ok (.bl i))
theorem we_str {i : Str} {j : Nat} (h : Φ (.str i) S) : WE X (.Constant (.str i) j pos) Γ S Φ Ξ := fun σ ρ M H Q W ok sl kv kx tk => PE.s pe_str (kv _ S _ ρ M H h .refl ok (.str i))
theorem we_non {j : Nat} (h : Φ .non S) : WE X (.Constant .none j pos) Γ S Φ Ξ := fun σ ρ M H Q W ok sl kv kx tk => PE.s pe_non (kv _ S _ ρ M H h .refl ok .non)

/-! ### operators -/
theorem two {ta tb : TE} {r : R2} (ha : WE X a Γ S (fun x S1 => WE X b Γ S1 (fun y S2 => R2s (gd X) r x y S2 Φ) Ξ) Ξ) : ∀ σ ρ M H Q W, Ok (gd X) S ρ M H → Slots (gd X) M ρ σ Γ → Kv (gd X) S ρ M H Φ Q → Kx (gd X) S ρ M H Ξ W → Takes X W → tOp r (sE X a) (sE X b) σ H Q :=
  fun σ ρ M H Q W ok sl kv kx tk => ha σ ρ M H _ W ok sl (fun x S1 vx ρ1 M1 H1 hb t1 ok1 r1 => hb σ ρ1 M1 H1 _ W ok1 (t1.slots sl) (fun y S2 vy ρ2 M2 H2 hr t2 ok2 r2 => hr ρ2 M2 H2 vx vy Q ok2 (t2.rp r1) r2 (kv.to (t1.trans t2))) (kx.to t1) tk) kx tk
theorem we_bin {op : Operator} {r : R2} (ho : OpR X (binaryOp op) r) (ha : WE X a Γ S (fun x S1 => WE X b Γ S1 (fun y S2 => R2s (gd X) r x y S2 Φ) Ξ) Ξ) : WE X (.BinOp a op b pos) Γ S Φ Ξ :=
  fun σ ρ M H Q W ok sl kv kx tk => PE.s (pe_op ho (pe_s a) (pe_s b)) (two (ta := sE X a) (tb := sE X b) ha σ ρ M H Q W ok sl kv kx tk)
theorem we_cmp {op : CmpOp} {r : R2} (ho : OpR X (compareOp op) r) (hm : behindInMarks op b = false) (ha : WE X a Γ S (fun x S1 => WE X b Γ S1 (fun y S2 => R2s (gd X) r x y S2 Φ) Ξ) Ξ) : WE X (.Compare a [op] [b] pos) Γ S Φ Ξ :=
  fun σ ρ M H Q W ok sl kv kx tk => PE.s (pe_cmpR ho (pe_s a) (pe_s b) hm) (two (ta := sE X a) (tb := sE X b) ha σ ρ M H Q W ok sl kv kx tk)
/-- the outcome is a truth -/
def asB (Φ : Bool → List Cell → Prop) : D → List Cell → Prop := fun d S => ∃ b, d = .bl b ∧ Φ b S
theorem rp_bl {g : Gd} {M : Hp} {ρ : List Addr} {v : V} {b : Bool} (h : Rp g M ρ v (.bl b)) : v = .bl b := by cases h; rfl
theorem rp_int {g : Gd} {M : Hp} {ρ : List Addr} {v : V} {b : Int} (h : Rp g M ρ v (.int b)) : v = .int b := by cases h; rfl
theorem rp_str {g : Gd} {M : Hp} {ρ : List Addr} {v : V} {b : Str} (h : Rp g M ρ v (.str b)) : v = .str b := by cases h; rfl
theorem rp_non {g : Gd} {M : Hp} {ρ : List Addr} {v : V} (h : Rp g M ρ v .non) : v = .non := by cases h; rfl
theorem rp_tup {g : Gd} {M : Hp} {ρ : List Addr} {v : V} {ds : List D} (h : Rp g M ρ v (.tup ds)) : ∃ a vs, v = .ref a ∧ SqT g.K M a vs ∧ Rps g M ρ vs ds := by cases h with | tup s r => exact ⟨_, _, rfl, s, r⟩
theorem rp_lst {g : Gd} {M : Hp} {ρ : List Addr} {v : V} {ds : List D} (h : Rp g M ρ v (.lst ds)) : ∃ a vs, v = .ref a ∧ SqL g.K M a vs ∧ Rps g M ρ vs ds := by cases h with | lst s r => exact ⟨_, _, rfl, s, r⟩
theorem rp_ptr {g : Gd} {M : Hp} {ρ : List Addr} {v : V} {l : Nat} (h : Rp g M ρ v (.ptr l)) : ∃ a, v = .ref a ∧ ρ[l]? = some a := by cases h with | ptr e => exact ⟨_, rfl, e⟩
theorem kv_b {X : Cx} {S : List Cell} {ρ : List Addr} {M H : Hp} {Φ : Bool → List Cell → Prop} {Q : Bool → Hp → Prop} (k : Kb (gd X) S ρ M H Φ Q) : Kv (gd X) S ρ M H (asB Φ) (fun x H' => ∃ c, x = .bl c ∧ Q c H') := fun d S' v ρ' M' H' ⟨b, e, p⟩ t ok r => by
  subst e
  exact ⟨b, rp_bl r, k b S' ρ' M' H' p t ok⟩
theorem wt_cmp {op : CmpOp} {r : R2} {Φ : Bool → List Cell → Prop} (ho : OpR X (compareOp op) r) (hm : behindInMarks op b = false) (ha : WE X a Γ S (fun x S1 => WE X b Γ S1 (fun y S2 => R2s (gd X) r x y S2 (asB Φ)) Ξ) Ξ) : WT X (.Compare a [op] [b] pos) Γ S Φ Ξ :=
  fun σ ρ M H Q W ok sl kb kx tk => PT.s (pt_cmpR ho (pe_s a) (pe_s b) hm) (two (ta := sE X a) (tb := sE X b) ha σ ρ M H _ W ok sl (kv_b kb) kx tk)
theorem wt_val {Φ : Bool → List Cell → Prop} (h : WE X e Γ S (asB Φ) Ξ) (he : ∀ whole, isTrue e X.env whole = (do let v ← whole; standAt e.pos; holding [v] (truthy v)) := by intro _; rfl) : WT X e Γ S Φ Ξ :=
  fun σ ρ M H Q W ok sl kb kx tk => PT.s (pt_val (pe_s e) he) (h σ ρ M H _ W ok sl (kv_b kb) kx tk)
theorem wt_not {Φ : Bool → List Cell → Prop} (h : WT X a Γ S (fun b S' => Φ (!b) S') Ξ) : WT X (.UnaryOp .Not a pos) Γ S Φ Ξ :=
  fun σ ρ M H Q W ok sl kb kx tk => PT.s (pt_not (pt_s a)) (h σ ρ M H _ W ok sl (fun b S' ρ' M' H' p => kb (!b) S' ρ' M' H' p) kx tk)
/-- chains of and, or, as tests -/
def WW (X : Cx) (e : Expr) (Γ : List (Option D)) (S : List Cell) (Φ : Bool → List Cell → Prop) (Ξ : XP) : Prop :=
  ∀ σ ρ M H Q W, Ok (gd X) S ρ M H → Slots (gd X) M ρ σ Γ → Kb (gd X) S ρ M H Φ Q → Kx (gd X) S ρ M H Ξ W → Takes X W → ∀ (wh : Sem Value) (pins : List (Addr × Obj)) (s : Shared), Inv X pins σ H s → wpAny (model X.prog X.w) X.A (isTrue e X.env wh) (TP X pins σ Q) X.xe s
def sW (X : Cx) (e : Expr) : TT := fun σ H Q => ∀ (wh : Sem Value) (pins : List (Addr × Obj)) (s : Shared), Inv X pins σ H s → wpAny (model X.prog X.w) X.A (isTrue e X.env wh) (TP X pins σ Q) X.xe s
theorem pw_s (e : Expr) : PW X e (sW X e) := ⟨fun wh pins s _ _ _ I h => h wh pins s I⟩
theorem ww_and1 {Φ : Bool → List Cell → Prop} (h : WT X a Γ S Φ Ξ) : WW X (.BoolOp .And [a] pos) Γ S Φ Ξ := fun σ ρ M H Q W ok sl kb kx tk wh pins s I => (pw_and1 (pt_s a)).run wh pins s σ H Q I (h σ ρ M H Q W ok sl kb kx tk)
theorem ww_or1 {Φ : Bool → List Cell → Prop} (h : WT X a Γ S Φ Ξ) : WW X (.BoolOp .Or [a] pos) Γ S Φ Ξ := fun σ ρ M H Q W ok sl kb kx tk wh pins s I => (pw_or1 (pt_s a)).run wh pins s σ H Q I (h σ ρ M H Q W ok sl kb kx tk)
theorem ww_and {Φ : Bool → List Cell → Prop} {rest : List Expr} (h : WT X a Γ S (fun c S1 => if c = true then WW X (.BoolOp .And (b :: rest) pos) Γ S1 Φ Ξ else Φ false S1) Ξ) : WW X (.BoolOp .And (a :: b :: rest) pos) Γ S Φ Ξ :=
  fun σ ρ M H Q W ok sl kb kx tk wh pins s I => (pw_and (pt_s a) (pw_s (.BoolOp .And (b :: rest) pos))).run wh pins s σ H Q I (h σ ρ M H _ W ok sl (fun c S1 ρ1 M1 H1 p t1 ok1 => by
    cases c with
    | true =>
      show sW X _ σ H1 Q
      exact p σ ρ1 M1 H1 Q W ok1 (t1.slots sl) (kb.to t1) (kx.to t1) tk
    | false =>
      show Q false H1
      exact kb false S1 ρ1 M1 H1 p t1 ok1) kx tk)
theorem ww_or {Φ : Bool → List Cell → Prop} {rest : List Expr} (h : WT X a Γ S (fun c S1 => if c = true then Φ true S1 else WW X (.BoolOp .Or (b :: rest) pos) Γ S1 Φ Ξ) Ξ) : WW X (.BoolOp .Or (a :: b :: rest) pos) Γ S Φ Ξ :=
  fun σ ρ M H Q W ok sl kb kx tk wh pins s I => (pw_or (pt_s a) (pw_s (.BoolOp .Or (b :: rest) pos))).run wh pins s σ H Q I (h σ ρ M H _ W ok sl (fun c S1 ρ1 M1 H1 p t1 ok1 => by
    cases c with
    | false =>
      show sW X _ σ H1 Q
      exact p σ ρ1 M1 H1 Q W ok1 (t1.slots sl) (kb.to t1) (kx.to t1) tk
    | true =>
      show Q true H1
      exact kb true S1 ρ1 M1 H1 p t1 ok1) kx tk)
theorem wt_ww {Φ : Bool → List Cell → Prop} (h : WW X e Γ S Φ Ξ) : WT X e Γ S Φ Ξ := fun σ ρ M H Q W ok sl kb kx tk => PT.s (pw_s e).pt (h σ ρ M H Q W ok sl kb kx tk)
/-! .. as values -/
theorem we_one {op : BoolOp} (h : WE X a Γ S Φ Ξ) : WE X (.BoolOp op [a] pos) Γ S Φ Ξ := fun σ ρ M H Q W ok sl kv kx tk => PE.s (pe_one (pe_s a)) (h σ ρ M H Q W ok sl kv kx tk)
theorem we_and {rest : List Expr} (h : WE X a Γ S (fun d S1 => ∃ c, d = .bl c ∧ if c = true then WE X (.BoolOp .And (b :: rest) pos) Γ S1 Φ Ξ else Φ (.bl false) S1) Ξ) : WE X (.BoolOp .And (a :: b :: rest) pos) Γ S Φ Ξ :=
  fun σ ρ M H Q W ok sl kv kx tk => PE.s (pe_and (pe_s a) (pe_s (.BoolOp .And (b :: rest) pos))) (h σ ρ M H _ W ok sl (fun d S1 v ρ1 M1 H1 ⟨c, e, p⟩ t1 ok1 r => by
    subst e
    refine ⟨c, rp_bl r, ?_⟩
    cases c with
    | true => exact p σ ρ1 M1 H1 Q W ok1 (t1.slots sl) (kv.to t1) (kx.to t1) tk
    | false => exact kv _ S1 _ ρ1 M1 H1 p t1 ok1 (.bl false)) kx tk)
theorem we_or {rest : List Expr} (h : WE X a Γ S (fun d S1 => ∃ c, d = .bl c ∧ if c = true then Φ (.bl true) S1 else WE X (.BoolOp .Or (b :: rest) pos) Γ S1 Φ Ξ) Ξ) : WE X (.BoolOp .Or (a :: b :: rest) pos) Γ S Φ Ξ :=
  fun σ ρ M H Q W ok sl kv kx tk => PE.s (pe_or (pe_s a) (pe_s (.BoolOp .Or (b :: rest) pos))) (h σ ρ M H _ W ok sl (fun d S1 v ρ1 M1 H1 ⟨c, e, p⟩ t1 ok1 r => by
    subst e
    refine ⟨c, rp_bl r, ?_⟩
    cases c with
    | false => exact p σ ρ1 M1 H1 Q W ok1 (t1.slots sl) (kv.to t1) (kx.to t1) tk
    | true => exact kv _ S1 _ ρ1 M1 H1 p t1 ok1 (.bl true)) kx tk)
theorem we_notV (h : WE X a Γ S (fun d S1 => ∃ c, d = .bl c ∧ Φ (.bl (!c)) S1) Ξ) : WE X (.UnaryOp .Not a pos) Γ S Φ Ξ :=
  fun σ ρ M H Q W ok sl kv kx tk => PE.s (pe_not (pe_s a)) (h σ ρ M H _ W ok sl (fun d S1 v ρ1 M1 H1 ⟨c, e, p⟩ t1 ok1 r => by
    subst e
    exact ⟨c, rp_bl r, kv _ S1 _ ρ1 M1 H1 p t1 ok1 (.bl (!c))⟩) kx tk)
theorem we_if {c : Expr} (h : WT X c Γ S (fun k S1 => if k = true then WE X a Γ S1 Φ Ξ else WE X b Γ S1 Φ Ξ) Ξ) : WE X (.IfExp c a b pos) Γ S Φ Ξ :=
  fun σ ρ M H Q W ok sl kv kx tk => PE.s (pe_ifExp (pt_s c) (pe_s a) (pe_s b)) (h σ ρ M H _ W ok sl (fun k S1 ρ1 M1 H1 p t1 ok1 => by
    cases k with
    | true => exact p σ ρ1 M1 H1 Q W ok1 (t1.slots sl) (kv.to t1) (kx.to t1) tk
    | false => exact p σ ρ1 M1 H1 Q W ok1 (t1.slots sl) (kv.to t1) (kx.to t1) tk) kx tk)

/-! ### arguments, displays -/
variable {es : List Expr}
theorem wa_nil {Φ : List D → List Cell → Prop} (h : Φ [] S) : WA X [] Γ S Φ Ξ := fun σ ρ M H Q W ok sl ka kx tk => PA.s pa_nil (ka [] S [] ρ M H h .refl ok .nil)
theorem wa_cons {Φ : List D → List Cell → Prop} (h : WE X e Γ S (fun d S1 => WA X es Γ S1 (fun ds S2 => Φ (d :: ds) S2) Ξ) Ξ) (hs : starEach (e :: es) X.env = (false, eval e X.env) :: starEach es X.env := by rfl) : WA X (e :: es) Γ S Φ Ξ :=
  fun σ ρ M H Q W ok sl ka kx tk => PA.s (pa_cons (pe_s e) (pa_s es) hs) (h σ ρ M H _ W ok sl (fun d S1 v ρ1 M1 H1 p t1 ok1 r1 => p σ ρ1 M1 H1 _ W ok1 (t1.slots sl) (fun ds S2 vs ρ2 M2 H2 q t2 ok2 r2 => ka (d :: ds) S2 (v :: vs) ρ2 M2 H2 q (t1.trans t2) ok2 (.cons (t2.rp r1) r2)) (kx.to t1) tk) kx tk)
theorem we_tup {x1 : Nat} (h : WA X es Γ S (fun ds S1 => ds.length ≤ 100000 ∧ Φ (.tup ds) S1) Ξ) : WE X (.Tuple es x1 pos) Γ S Φ Ξ :=
  fun σ ρ M H Q W ok sl kv kx tk => PE.s (pe_tup (pa_s es)) (h σ ρ M H _ W ok sl (fun ds S1 vs ρ1 M1 H1 ⟨hl, p⟩ t1 ok1 r1 => by
    refine ⟨by rw [r1.length]; exact Nat.le_trans hl (by decide), fun q hq => ?_⟩
    obtain ⟨ok2, t2⟩ := ok1.keep (o := .tup vs) hq
    exact kv _ S1 _ ρ1 _ _ p (t1.trans t2) ok2 (.tup (SqT.of upd_same) (t2.rps r1))) kx tk)
/-- a written list, kept as it is for good -/
theorem we_lst (h : WA X es Γ S (fun ds S1 => ds.length ≤ 100000 ∧ Φ (.lst ds) S1) Ξ) : WE X (.List es pos) Γ S Φ Ξ :=
  fun σ ρ M H Q W ok sl kv kx tk => PE.s (pe_lst (pa_s es)) (h σ ρ M H _ W ok sl (fun ds S1 vs ρ1 M1 H1 ⟨hl, p⟩ t1 ok1 r1 => by
    refine ⟨by rw [r1.length]; exact Nat.le_trans hl (by decide), fun q hq => ?_⟩
    obtain ⟨ok2, t2⟩ := ok1.keep (o := .lst vs) hq
    exact kv _ S1 _ ρ1 _ _ p (t1.trans t2) ok2 (.lst (SqL.of upd_same) (t2.rps r1))) kx tk)
/-- .. one that may change: a new cell -/
theorem we_lstC (h : WA X es Γ S (fun ds S1 => ds.length ≤ 100000 ∧ Φ (.ptr S1.length) (S1 ++ [.lst ds])) Ξ) : WE X (.List es pos) Γ S Φ Ξ :=
  fun σ ρ M H Q W ok sl kv kx tk => PE.s (pe_lst (pa_s es)) (h σ ρ M H _ W ok sl (fun ds S1 vs ρ1 M1 H1 ⟨hl, p⟩ t1 ok1 r1 => by
    refine ⟨by rw [r1.length]; exact Nat.le_trans hl (by decide), fun q hq => ?_⟩
    have pre : ∀ (l : Nat) (a : Addr), ρ1[l]? = some a → (ρ1 ++ [q])[l]? = some a := fun l a h => by
      rw [List.getElem?_append_left (List.getElem?_eq_some_iff.mp h).1]
      exact h
    obtain ⟨ok2, t2⟩ := ok1.more (o := .lst vs) (c := .lst ds) hq (.lst upd_same (Rps.mono (fun _ _ h => h) pre ds vs r1))
    exact kv _ _ _ _ _ _ p (t1.trans t2) ok2 (.ptr (by rw [← ok1.len]; simp))) kx tk)
theorem we_dicC (h : Φ (.ptr S.length) (S ++ [.dic false [] []])) : WE X (.Dict [] [] pos) Γ S Φ Ξ :=
  fun σ ρ M H Q W ok sl kv kx tk => PE.s pe_dnewK (fun q hq => by
    obtain ⟨ok2, t2⟩ := ok.more (o := .dK []) (c := .dic false [] []) hq (.dic (g := gd X) upd_same (.k []) .nil .nil)
    exact kv _ _ _ _ _ _ h t2 ok2 (.ptr (by rw [← ok.len]; simp)))
end
end Ab
set_option Elab.async false
set_option linter.all false
set_option maxRecDepth 100000
set_option maxHeartbeats 4000000
/-! Operations on values, over the store. -/
namespace Ab
open PySem PySem.Spec PyProof.Rows L2
section
variable {g : Gd} {S : List Cell} {Φ : D → List Cell → Prop} {ΦB : Bool → List Cell → Prop}
/-! ### whole numbers -/
theorem r2_int {f : Int → Int → Int} {C : Int → Int → Prop} {i j : Int} (hc : C i j) (h : Φ (.int (f i j)) S) : R2s g (rI C fun i j => .int (f i j)) (.int i) (.int j) S Φ := fun ρ M H vx vy Q ok rx ry kv =>
  ⟨i, j, rp_int rx, rp_int ry, hc, kv _ S _ ρ M H h .refl ok (.int _)⟩
theorem r2_int0 {f : Int → Int → Int} {i j : Int} (h : Φ (.int (f i j)) S) : R2s g (rI0 fun i j => .int (f i j)) (.int i) (.int j) S Φ := fun ρ M H vx vy Q ok rx ry kv =>
  ⟨i, j, rp_int rx, rp_int ry, kv _ S _ ρ M H h .refl ok (.int _)⟩
theorem r2_cmp0 {f : Int → Int → Bool} {i j : Int} (h : Φ (.bl (f i j)) S) : R2s g (rI0 fun i j => .bl (f i j)) (.int i) (.int j) S Φ := fun ρ M H vx vy Q ok rx ry kv =>
  ⟨i, j, rp_int rx, rp_int ry, kv _ S _ ρ M H h .refl ok (.bl _)⟩
/-- == and != of numbers, texts, truths, None -/
def scD : D → V
  | .int i => .int i
  | .str s => .str s
  | .bl b => .bl b
  | _ => .non
theorem rp_sc {M : Hp} {ρ : List Addr} {v : V} {d : D} (h : Rp g M ρ v d) (hd : (match d with | .int _ | .str _ | .bl _ | .non => true | _ => false) = true) : v = scD d := by
  cases h with
  | non => rfl
  | bl => rfl
  | int => rfl
  | str => rfl
  | ref => cases hd
  | ty => cases hd
  | ptr => cases hd
  | tup => cases hd
  | ptup => cases hd
  | lst => cases hd
  | dic => cases hd
theorem r2_eqI {i j : Int} (h : Φ (.bl (decide (i = j))) S) : R2s g rEq (.int i) (.int j) S Φ := fun ρ M H vx vy Q ok rx ry kv => by
  rw [rp_int rx, rp_int ry]
  refine ⟨rfl, ?_⟩
  have e : decide (V.int i = V.int j) = decide (i = j) := by simp
  rw [e]
  exact kv _ S _ ρ M H h .refl ok (.bl _)
theorem r2_neI {i j : Int} (h : Φ (.bl (!decide (i = j))) S) : R2s g rNe (.int i) (.int j) S Φ := fun ρ M H vx vy Q ok rx ry kv => by
  rw [rp_int rx, rp_int ry]
  refine ⟨rfl, ?_⟩
  have e : decide (V.int i = V.int j) = decide (i = j) := by simp
  rw [e]
  exact kv _ S _ ρ M H h .refl ok (.bl _)
theorem r2_eqS {i j : Str} (h : Φ (.bl (decide (i = j))) S) : R2s g rEq (.str i) (.str j) S Φ := fun ρ M H vx vy Q ok rx ry kv => by
  rw [rp_str rx, rp_str ry]
  refine ⟨rfl, ?_⟩
  have e : decide (V.str i = V.str j) = decide (i = j) := by simp
  rw [e]
  exact kv _ S _ ρ M H h .refl ok (.bl _)
theorem r2_neS {i j : Str} (h : Φ (.bl (!decide (i = j))) S) : R2s g rNe (.str i) (.str j) S Φ := fun ρ M H vx vy Q ok rx ry kv => by
  rw [rp_str rx, rp_str ry]
  refine ⟨rfl, ?_⟩
  have e : decide (V.str i = V.str j) = decide (i = j) := by simp
  rw [e]
  exact kv _ S _ ρ M H h .refl ok (.bl _)
/-! ### texts -/
theorem r2_addS {i j : Str} (hz : i.length + j.length ≤ 1000000) (h : Φ (.str (i ++ j)) S) : R2s g (fun x y H Q => ∃ i j, x = .str i ∧ y = .str j ∧ i.length + j.length ≤ sizeLine ∧ Q (.str (i ++ j)) H) (.str i) (.str j) S Φ := fun ρ M H vx vy Q ok rx ry kv =>
  ⟨i, j, rp_str rx, rp_str ry, Nat.le_trans hz (by decide), kv _ S _ ρ M H h .refl ok (.str _)⟩

/-! ### is None -/
theorem r2_isN {d : D} {b : Bool} (hd : d = .non ∧ b = true ∨ ((match d with | .non => false | _ => true) = true ∧ b = false)) (h : Φ (.bl b) S) : R2s g (fun x y H Q => y = .non ∧ Q (.bl (decide (x = .non))) H) d .non S Φ := fun ρ M H vx vy Q ok rx ry kv => by
  refine ⟨rp_non ry, ?_⟩
  have e : decide (vx = V.non) = b := by
    rcases hd with ⟨rfl, rfl⟩ | ⟨hd, rfl⟩
    · rw [rp_non rx]; rfl
    · cases rx with
      | non => cases hd
      | _ => exact decide_eq_false (fun q => by cases q)
  rw [e]
  exact kv _ S _ ρ M H h .refl ok (.bl _)
theorem r2_notN {d : D} {b : Bool} (hd : d = .non ∧ b = false ∨ ((match d with | .non => false | _ => true) = true ∧ b = true)) (h : Φ (.bl b) S) : R2s g (fun x y H Q => y = .non ∧ Q (.bl (!decide (x = .non))) H) d .non S Φ := fun ρ M H vx vy Q ok rx ry kv => by
  refine ⟨rp_non ry, ?_⟩
  have e : (!decide (vx = V.non)) = b := by
    rcases hd with ⟨rfl, rfl⟩ | ⟨hd, rfl⟩
    · rw [rp_non rx]; rfl
    · cases rx with
      | non => cases hd
      | _ =>
        rw [decide_eq_false (fun q => by cases q)]
        rfl
  rw [e]
  exact kv _ S _ ρ M H h .refl ok (.bl _)

/-! ### lists and tuples -/
/-- a list that is read: for good, or a cell -/
def LstD (S : List Cell) : D → List D → Prop
  | .lst xs, ys => xs = ys
  | .ptr l, ys => S[l]? = some (.lst ys)
  | _, _ => False
theorem LstD.at {S : List Cell} {d : D} {ys : List D} (h : LstD S d ys) {ρ : List Addr} {M H : Hp} (ok : Ok g S ρ M H) {v : V} (r : Rp g M ρ v d) : ∃ a vs, v = .ref a ∧ SqL g.K H a vs ∧ Rps g M ρ vs ys := by
  cases d with
  | lst xs =>
    obtain ⟨a, vs, e, s, r⟩ := rp_lst r
    have e2 : xs = ys := h
    subst e2
    exact ⟨a, vs, e, Same.seq ok.sub s, r⟩
  | ptr l =>
    obtain ⟨a, e, r⟩ := rp_ptr r
    cases ok.at_ l _ a h r with
    | lst q r2 => exact ⟨a, _, e, SqL.of q, r2⟩
  | _ => exact h.elim
/-- a tuple or a list -/
def SeqD (S : List Cell) : D → List D → Prop
  | .tup xs, ys => xs = ys
  | d, ys => LstD S d ys
theorem SeqD.at {S : List Cell} {d : D} {ys : List D} (h : SeqD S d ys) {ρ : List Addr} {M H : Hp} (ok : Ok g S ρ M H) {v : V} (r : Rp g M ρ v d) : ∃ a vs, v = .ref a ∧ (SqL g.K H a vs ∨ SqT g.K H a vs) ∧ Rps g M ρ vs ys := by
  cases d with
  | tup xs =>
    obtain ⟨a, vs, e, s, r⟩ := rp_tup r
    have e2 : xs = ys := h
    subst e2
    exact ⟨a, vs, e, .inr (seqT ok.sub s), r⟩
  | lst xs =>
    obtain ⟨a, vs, e, s, r⟩ := LstD.at (d := .lst xs) h ok r
    exact ⟨a, vs, e, .inl s, r⟩
  | ptr l =>
    obtain ⟨a, vs, e, s, r⟩ := LstD.at (d := .ptr l) h ok r
    exact ⟨a, vs, e, .inl s, r⟩
  | _ => exact (show False from h).elim
theorem atI_rps {M : Hp} {ρ : List Addr} {vs : List V} {ds : List D} (r : Rps g M ρ vs ds) {i : Int} {d : D} (h : atI ds i = some d) : ∃ v, atI vs i = some v ∧ Rp g M ρ v d := by
  unfold atI at h ⊢
  rw [r.length]
  cases e : ixN ds.length i with
  | none => rw [e] at h; cases h
  | some j =>
    rw [e] at h
    exact r.get h
theorem r2_ixT {ds : List D} {i : Int} {d : D} (hi : atI ds i = some d) (h : Φ d S) : R2s g (rIxT g.K) (.tup ds) (.int i) S Φ := fun ρ M H vx vy Q ok rx ry kv => by
  obtain ⟨a, vs, e, s, r⟩ := rp_tup rx
  obtain ⟨v, ev, rv⟩ := atI_rps r hi
  exact ⟨a, vs, i, v, e, rp_int ry, seqT ok.sub s, ev, kv _ S _ ρ M H h .refl ok rv⟩
theorem r2_ixL {x : D} {ds : List D} {i : Int} {d : D} (hx : LstD S x ds) (hi : atI ds i = some d) (h : Φ d S) : R2s g (rIxL g.K) x (.int i) S Φ := fun ρ M H vx vy Q ok rx ry kv => by
  obtain ⟨a, vs, e, s, r⟩ := hx.at ok rx
  obtain ⟨v, ev, rv⟩ := atI_rps r hi
  exact ⟨a, vs, i, v, e, rp_int ry, s, ev, kv _ S _ ρ M H h .refl ok rv⟩
/-- + of lists: a new one, for good -/
def rCatL (K : PySem.W.Frag) : R2 := fun x y H Q => ∃ l b xs zs, x = .ref l ∧ y = .ref b ∧ SqL K H l xs ∧ SqL K H b zs ∧ xs.length + zs.length ≤ sizeLine ∧ ∀ p, H p = none → Q (.ref p) (upd H p (.lst (xs ++ zs)))
theorem op_catL {X : Cx} : OpR X (binaryOp .Add) (rCatL X.K) := by
  intro pins s σ H x y v u Q I rx ry h
  obtain ⟨l, b, xs, zs, rfl, rfl, hH, hB, hz, q⟩ := h
  cases rx
  cases ry
  obtain ⟨its, r1, ⟨⟨k1, w1, t1, sl1⟩, n1, e1, c1, d1, p1⟩, z1⟩ := I.list hH
  obtain ⟨its2, r2, ⟨⟨k2, w2, t2, sl2⟩, n2, e2, c2, d2, p2⟩, z2⟩ := I.list hB
  simp only at c1 p1 c2 p2
  subst c1 p1 c2 p2
  have l1 := r1.length
  have l2 := r2.length
  refine concat_meets ⟨_, e1, rfl⟩ ⟨_, e2, rfl⟩ noFill_list_add seq_list_add F.slot_list_add F.entry_list_add (F.args_list_add_2 _ _) (list_addW l b its.toArray its2.toArray n1 n2 w1 w2 sl1 sl2 (by rw [List.size_toArray, List.size_toArray]; omega)) ⟨e1, e2, ?_⟩
  have ea : its.toArray ++ its2.toArray = (its ++ its2).toArray := by simp
  rw [ea]
  exact ⟨.ref _, _, I.lnew (t' := s.toks) (r1.append r2) (by rw [List.length_append]; omega), rfl, q _ I.fresh⟩
theorem r2_catL {x y : D} {xs ys : List D} (hx : LstD S x xs) (hy : LstD S y ys) (hz : xs.length + ys.length ≤ 1000000) (h : Φ (.lst (xs ++ ys)) S) : R2s g (rCatL g.K) x y S Φ := fun ρ M H vx vy Q ok rx ry kv => by
  obtain ⟨a, vs, e, s, r⟩ := hx.at ok rx
  obtain ⟨b, us, e2, s2, r2⟩ := hy.at ok ry
  refine ⟨a, b, vs, us, e, e2, s, s2, by rw [r.length, r2.length]; exact Nat.le_trans hz (by decide), fun p hp => ?_⟩
  obtain ⟨ok2, t2⟩ := ok.keep (o := .lst (vs ++ us)) hp
  exact kv _ S _ ρ _ _ h t2 ok2 (.lst (SqL.of upd_same) (t2.rps (r.append r2)))
theorem r2_catT {xs ys : List D} (hz : xs.length + ys.length ≤ 1000000) (h : Φ (.tup (xs ++ ys)) S) : R2s g (rCatA g.K) (.tup xs) (.tup ys) S Φ := fun ρ M H vx vy Q ok rx ry kv => by
  obtain ⟨a, vs, e, s, r⟩ := rp_tup rx
  obtain ⟨b, us, e2, s2, r2⟩ := rp_tup ry
  have l1 := r.length
  have l2 := r2.length
  refine ⟨a, b, vs, us, e, e2, seqT ok.sub s, seqT ok.sub s2, by rw [l1, l2]; exact Nat.le_trans hz (by decide), fun h0 => ?_, fun _ h0 => ?_, fun _ _ p hp => ?_⟩
  · have : xs = [] := List.length_eq_zero_iff.mp (by rw [← l1, h0]; rfl)
    subst this
    rw [← e2]
    exact kv _ S _ ρ M H h .refl ok ry
  · have : ys = [] := List.length_eq_zero_iff.mp (by rw [← l2, h0]; rfl)
    subst this
    rw [List.append_nil] at h
    rw [← e]
    exact kv _ S _ ρ M H h .refl ok rx
  · obtain ⟨ok2, t2⟩ := ok.keep (o := .tup (vs ++ us)) hp
    exact kv _ S _ ρ _ _ h t2 ok2 (.tup (SqT.of upd_same) (t2.rps (r.append r2)))
/-! slices -/
def cutD (xs : List D) (lo hi : Option Int) : List D := (xs.drop (HT.sIx xs.length 0 lo)).take (HT.sIx xs.length xs.length hi - HT.sIx xs.length 0 lo)
theorem cut_rps {M : Hp} {ρ : List Addr} {vs : List V} {ds : List D} (r : Rps g M ρ vs ds) (lo hi : Option Int) : Rps g M ρ (cutV vs lo hi) (cutD ds lo hi) := by
  unfold cutV cutD
  rw [r.length]
  exact (r.drop _).take _
def Rsl (g : Gd) (r : V → Option Int → Option Int → Hp → VK → Prop) (x : D) (lo hi : Option Int) (S : List Cell) (Φ : D → List Cell → Prop) : Prop := ∀ ρ M H vx Q, Ok g S ρ M H → Rp g M ρ vx x → Kv g S ρ M H Φ Q → r vx lo hi H Q
theorem rs_lst {x : D} {xs : List D} {lo hi : Option Int} (hx : LstD S x xs) (h : Φ (.lst (cutD xs lo hi)) S) : Rsl g (rSlL g.K) x lo hi S Φ := fun ρ M H vx Q ok rx kv => by
  obtain ⟨a, vs, e, s, r⟩ := hx.at ok rx
  refine ⟨a, vs, e, s, fun p hp => ?_⟩
  obtain ⟨ok2, t2⟩ := ok.keep (o := .lst (cutV vs lo hi)) hp
  exact kv _ S _ ρ _ _ h t2 ok2 (.lst (SqL.of upd_same) (t2.rps (cut_rps r lo hi)))
theorem rs_tup {xs : List D} {lo hi : Option Int} (h : Φ (.tup (cutD xs lo hi)) S) : Rsl g (rSlA g.K) (.tup xs) lo hi S Φ := fun ρ M H vx Q ok rx kv => by
  obtain ⟨a, vs, e, s, r⟩ := rp_tup rx
  refine ⟨a, vs, e, seqT ok.sub s, fun hw => ?_, fun _ p hp => ?_⟩
  · have e2 : cutD xs lo hi = xs := by
      unfold cutD
      rw [← r.length, hw.1, hw.2, List.drop_zero, Nat.sub_zero, r.length]
      exact List.take_length
    rw [e2] at h
    rw [← e]
    exact kv _ S _ ρ M H h .refl ok rx
  · obtain ⟨ok2, t2⟩ := ok.keep (o := .tup (cutV vs lo hi)) hp
    exact kv _ S _ ρ _ _ h t2 ok2 (.tup (SqT.of upd_same) (t2.rps (cut_rps r lo hi)))

/-! ### data compared -/
mutual
def toPy : D → PyData
  | .non => .none
  | .bl b => .bool b
  | .int i => .int i
  | .str s => .str s
  | .tup xs => .tuple (toPys xs)
  | .ptup xs => .tuple (toPys xs)
  | .lst xs => .list (toPys xs)
  | .ref _ => .none
  | .ty _ => .none
  | .ptr _ => .none
  | .dic _ _ _ => .none
def toPys : List D → List PyData
  | [] => []
  | d :: ds => toPy d :: toPys ds
end
mutual
def plainD : D → Bool
  | .non => true
  | .bl _ => true
  | .int _ => true
  | .str s => PySem.PyData.strOk s
  | .tup xs => plainDs xs
  | .ptup xs => plainDs xs
  | .lst xs => plainDs xs
  | .ref _ => false
  | .ty _ => false
  | .ptr _ => false
  | .dic _ _ _ => false
def plainDs : List D → Bool
  | [] => true
  | d :: ds => plainD d && plainDs ds
end
mutual
theorem Rp.dp {M : Hp} {ρ : List Addr} : ∀ (d : D) (v : V), plainD d = true → Rp g M ρ v d → Dp g.K M v (toPy d)
  | .non, _, _, h => by cases h; exact .non
  | .bl _, _, _, h => by cases h; exact .bl _
  | .int _, _, _, h => by cases h; exact .int _
  | .str _, _, _, h => by cases h; exact .str _
  | .tup ds, _, p, h => by cases h with | tup s r => exact .tup s (Rps.dp ds _ (by simpa [plainD] using p) r)
  | .ptup ds, _, p, h => by cases h with | ptup s n r => exact .tup (.inl (.inr ⟨_, s⟩)) (Rps.dp ds _ (by simpa [plainD] using p) r)
  | .lst ds, _, p, h => by cases h with | lst s r => exact .lst s (Rps.dp ds _ (by simpa [plainD] using p) r)
  | .ref _, _, p, _ => by simp [plainD] at p
  | .ty _, _, p, _ => by simp [plainD] at p
  | .ptr _, _, p, _ => by simp [plainD] at p
  | .dic _ _ _, _, p, _ => by simp [plainD] at p
theorem Rps.dp {M : Hp} {ρ : List Addr} : ∀ (ds : List D) (vs : List V), plainDs ds = true → Rps g M ρ vs ds → DpAll g.K M vs (toPys ds)
  | [], _, _, h => by cases h; exact .nil
  | d :: ds, _, p, h => by
    cases h with
    | cons r t =>
      simp only [plainDs, Bool.and_eq_true] at p
      exact .cons (Rp.dp d _ p.1 r) (Rps.dp ds _ p.2 t)
end
mutual
theorem canLay_plain : ∀ d : D, plainD d = true → PyData.canLay0 (toPy d) = true
  | .non, _ => rfl
  | .bl _, _ => rfl
  | .int _, _ => rfl
  | .str s, h => by simpa [toPy, PyData.canLay0, plainD] using h
  | .tup ds, h => by
    simp only [toPy, PyData.canLay0]
    exact canLays_plain ds (by simpa [plainD] using h)
  | .ptup ds, h => by
    simp only [toPy, PyData.canLay0]
    exact canLays_plain ds (by simpa [plainD] using h)
  | .lst ds, h => by
    simp only [toPy, PyData.canLay0]
    exact canLays_plain ds (by simpa [plainD] using h)
  | .ref _, h => by simp [plainD] at h
  | .ty _, h => by simp [plainD] at h
  | .ptr _, h => by simp [plainD] at h
  | .dic _ _ _, h => by simp [plainD] at h
theorem canLays_plain : ∀ ds : List D, plainDs ds = true → PyData.canLayAll0 (toPys ds) = true
  | [], _ => rfl
  | d :: ds, h => by
    simp only [plainDs, Bool.and_eq_true] at h
    simp only [toPys, PyData.canLayAll0, canLay_plain d h.1, canLays_plain ds h.2, Bool.and_self]
end
mutual
def depD : D → Nat
  | .tup xs => depDs xs + 1
  | .ptup xs => depDs xs + 1
  | .lst xs => depDs xs + 1
  | _ => 0
def depDs : List D → Nat
  | [] => 0
  | d :: ds => max (depD d) (depDs ds)
end
mutual
theorem dep_py : ∀ d : D, (toPy d).depth ≤ depD d
  | .non => by simp [toPy, PyData.depth]
  | .bl _ => by simp [toPy, PyData.depth]
  | .int _ => by simp [toPy, PyData.depth]
  | .str _ => by simp [toPy, PyData.depth]
  | .ref _ => by simp [toPy, PyData.depth]
  | .ty _ => by simp [toPy, PyData.depth]
  | .ptr _ => by simp [toPy, PyData.depth]
  | .dic _ _ _ => by simp [toPy, PyData.depth]
  | .tup xs => by
    have := dep_pys xs
    simp only [toPy, PyData.depth, depD]
    omega
  | .ptup xs => by
    have := dep_pys xs
    simp only [toPy, PyData.depth, depD]
    omega
  | .lst xs => by
    have := dep_pys xs
    simp only [toPy, PyData.depth, depD]
    omega
theorem dep_pys : ∀ ds : List D, PyData.depthAll (toPys ds) ≤ depDs ds
  | [] => by simp [toPys, PyData.depthAll, depDs]
  | d :: ds => by
    have h1 := dep_py d
    have h2 := dep_pys ds
    simp only [toPys, PyData.depthAll, depDs]
    omega
end
/-- a value that is data now (a cell's list is read) -/
def NowD (S : List Cell) : D → D → Prop
  | .ptr l, e => ∃ ys, S[l]? = some (.lst ys) ∧ e = .lst ys
  | d, e => d = e
theorem NowD.dp {S : List Cell} {d e : D} (h : NowD S d e) (hp : plainD e = true) {ρ : List Addr} {M H : Hp} (ok : Ok g S ρ M H) {v : V} (r : Rp g M ρ v d) : Dp g.K H v (toPy e) := by
  have go : ∀ x : D, x = e → Rp g M ρ v x → Dp g.K H v (toPy e) := fun x q r => by
    subst q
    exact Rp.dp x v hp (Rp.mono ok.sub (fun _ _ h => h) x v r)
  cases d with
  | ptr l =>
    obtain ⟨ys, e1, rfl⟩ := h
    obtain ⟨a, vs, q, s, r2⟩ := LstD.at (d := .ptr l) (ys := ys) e1 ok r
    subst q
    exact .lst s (Rps.dp ys vs (by simpa [plainD] using hp) (Rps.mono ok.sub (fun _ _ h => h) ys vs r2))
  | _ => exact go _ h r
def okD (d : D) : Bool := plainD d && decide (depD d ≤ 64)
theorem shaped_of {d : D} (h : okD d = true) : SeqAt.shaped (toPy d) = true := by
  simp only [okD, Bool.and_eq_true, decide_eq_true_eq] at h
  have := dep_py d
  simp only [SeqAt.shaped, canLay_plain d h.1, Bool.true_and, decide_eq_true_eq]
  omega
theorem okD_plain {d : D} (h : okD d = true) : plainD d = true := by
  simp only [okD, Bool.and_eq_true] at h
  exact h.1
theorem r2_eqD {x y d e : D} (hx : NowD S x d) (hy : NowD S y e) (h1 : okD d = true) (h2 : okD e = true) {b : Bool} (hb : PyData.eqv (toPy d) (toPy e) = b) (h : Φ (.bl b) S) : R2s g (rEqD g.K) x y S Φ := fun ρ M H vx vy Q ok rx ry kv => by
  refine ⟨_, _, hx.dp (okD_plain h1) ok rx, hy.dp (okD_plain h2) ok ry, shaped_of h1, shaped_of h2, ?_⟩
  rw [hb]
  exact kv _ S _ ρ M H h .refl ok (.bl _)
theorem r2_neD {x y d e : D} (hx : NowD S x d) (hy : NowD S y e) (h1 : okD d = true) (h2 : okD e = true) {b : Bool} (hb : PyData.eqv (toPy d) (toPy e) = b) (h : Φ (.bl (!b)) S) : R2s g (rNeD g.K) x y S Φ := fun ρ M H vx vy Q ok rx ry kv => by
  refine ⟨_, _, hx.dp (okD_plain h1) ok rx, hy.dp (okD_plain h2) ok ry, shaped_of h1, shaped_of h2, ?_⟩
  rw [hb]
  exact kv _ S _ ρ M H h .refl ok (.bl _)
theorem toPys_map : ∀ ds : List D, toPys ds = ds.map toPy
  | [] => rfl
  | d :: ds => by rw [toPys, toPys_map ds]; rfl
/-- x in a list of data -/
theorem r2_inD {x y d : D} {ds : List D} (hx : NowD S x d) (hy : NowD S y (.lst ds)) (h1 : okD d = true) (h2 : okD (.lst ds) = true) {b : Bool} (hb : (ds.any fun z => PyData.eqv (toPy z) (toPy d)) = b) (h : Φ (.bl b) S) : R2s g (rInD g.K) x y S Φ := fun ρ M H vx vy Q ok rx ry kv => by
  have e : toPy (.lst ds) = .list (toPys ds) := by simp [toPy]
  refine ⟨_, toPys ds, hx.dp (okD_plain h1) ok rx, e ▸ hy.dp (okD_plain h2) ok ry, shaped_of h1, e ▸ shaped_of h2, ?_⟩
  have e2 : ((toPys ds).any fun z => PyData.eqv z (toPy d)) = b := by
    rw [toPys_map, List.any_map]
    exact hb
  rw [e2]
  exact kv _ S _ ρ M H h .refl ok (.bl _)
theorem r2_notInD {x y d : D} {ds : List D} (hx : NowD S x d) (hy : NowD S y (.lst ds)) (h1 : okD d = true) (h2 : okD (.lst ds) = true) {b : Bool} (hb : (ds.any fun z => PyData.eqv (toPy z) (toPy d)) = b) (h : Φ (.bl (!b)) S) : R2s g (rNotInD g.K) x y S Φ := fun ρ M H vx vy Q ok rx ry kv => by
  have e : toPy (.lst ds) = .list (toPys ds) := by simp [toPy]
  refine ⟨_, toPys ds, hx.dp (okD_plain h1) ok rx, e ▸ hy.dp (okD_plain h2) ok ry, shaped_of h1, e ▸ shaped_of h2, ?_⟩
  have e2 : ((toPys ds).any fun z => PyData.eqv z (toPy d)) = b := by
    rw [toPys_map, List.any_map]
    exact hb
  rw [e2]
  exact kv _ S _ ρ M H h .refl ok (.bl _)
/-! x in a list or tuple of texts -/
theorem rps_strs {M : Hp} {ρ : List Addr} : ∀ {ss : List Str} {vs : List V}, Rps g M ρ vs (ss.map D.str) → vs = ss.map V.str
  | [], _, h => by cases h; rfl
  | s :: ss, _, h => by
    cases h with
    | cons r t => rw [rp_str r, rps_strs t]; rfl
theorem rps_ints {M : Hp} {ρ : List Addr} : ∀ {ss : List Int} {vs : List V}, Rps g M ρ vs (ss.map D.int) → vs = ss.map V.int
  | [], _, h => by cases h; rfl
  | s :: ss, _, h => by
    cases h with
    | cons r t => rw [rp_int r, rps_ints t]; rfl
theorem rps_bls {M : Hp} {ρ : List Addr} : ∀ {ss : List Bool} {vs : List V}, Rps g M ρ vs (ss.map D.bl) → vs = ss.map V.bl
  | [], _, h => by cases h; rfl
  | s :: ss, _, h => by
    cases h with
    | cons r t => rw [rp_bl r, rps_bls t]; rfl
theorem strs_rps {M : Hp} {ρ : List Addr} : ∀ ss : List Str, Rps g M ρ (ss.map V.str) (ss.map D.str)
  | [] => .nil
  | s :: ss => .cons (.str s) (strs_rps ss)
theorem inV_strs (s : Str) (ss : List Str) : inV (.str s) (ss.map V.str) = decide (s ∈ ss) := by
  unfold inV
  rw [List.any_map]
  induction ss with
  | nil => rfl
  | cons a ss ih =>
    rw [List.any_cons, ih]
    by_cases e : a = s
    · subst e
      simp [eqV]
    · have : ¬ s = a := fun q => e q.symm
      simp [eqV, e, this]
theorem flat_strs (ss : List Str) : (ss.map V.str).all flatV = true := by
  rw [List.all_map, List.all_eq_true]
  intro x _
  rfl
theorem r2_inS {y : D} {s : Str} {ss : List Str} (hy : SeqD S y (ss.map D.str)) (h : Φ (.bl (decide (s ∈ ss))) S) : R2s g (rIn g.K false) (.str s) y S Φ := fun ρ M H vx vy Q ok rx ry kv => by
  obtain ⟨a, vs, e, q, r⟩ := hy.at ok ry
  rw [rp_str rx]
  have ev := rps_strs r
  subst ev
  refine ⟨a, _, e, q, rfl, flat_strs ss, ?_⟩
  show Q (V.bl (if false = true then !inV (.str s) (ss.map V.str) else inV (.str s) (ss.map V.str))) H
  rw [if_neg Bool.false_ne_true, inV_strs]
  exact kv _ S _ ρ M H h .refl ok (.bl _)
theorem r2_notInS {y : D} {s : Str} {ss : List Str} (hy : SeqD S y (ss.map D.str)) (h : Φ (.bl (!decide (s ∈ ss))) S) : R2s g (rIn g.K true) (.str s) y S Φ := fun ρ M H vx vy Q ok rx ry kv => by
  obtain ⟨a, vs, e, q, r⟩ := hy.at ok ry
  rw [rp_str rx]
  have ev := rps_strs r
  subst ev
  refine ⟨a, _, e, q, rfl, flat_strs ss, ?_⟩
  show Q (V.bl (if true = true then !inV (.str s) (ss.map V.str) else inV (.str s) (ss.map V.str))) H
  rw [if_pos rfl, inV_strs]
  exact kv _ S _ ρ M H h .refl ok (.bl _)
end
end Ab
set_option Elab.async false
set_option linter.all false
set_option maxRecDepth 100000
set_option maxHeartbeats 4000000
/-! Subscripts, fields, calls; statements; loops; comprehensions. -/
namespace Ab
open PySem PySem.Spec PyProof.Rows L2
section
variable {X : Cx} {Γ : List (Option D)} {S : List Cell} {Φ : D → List Cell → Prop} {Ξ : XP} {a b e o : Expr} {es : List Expr} {pos : Pos}

/-! ### subscripts, slices -/
theorem we_ix {r : R2} (hr : IxR X r) (ha : WE X a Γ S (fun x S1 => WE X b Γ S1 (fun y S2 => R2s (gd X) r x y S2 Φ) Ξ) Ξ) (hs : PlainIx b := by intro _ _; rfl) : WE X (.Subscript a b pos) Γ S Φ Ξ :=
  fun σ ρ M H Q W ok sl kv kx tk => PE.s (pe_ix hr (pe_s a) (pe_s b) hs) (two (ta := sE X a) (tb := sE X b) ha σ ρ M H Q W ok sl kv kx tk)
def WO (X : Cx) (e : Option Expr) (Γ : List (Option D)) (S : List Cell) (Φ : Option Int → List Cell → Prop) (Ξ : XP) : Prop := match e with
  | none => Φ none S
  | some e => WE X e Γ S (fun d S' => ∃ i, d = .int i ∧ Φ (some i) S') Ξ
def sO (X : Cx) : Option Expr → TO
  | none => tNoPart
  | some e => tPart (sE X e)
theorem po_s (e : Option Expr) : PO X e (sO X e) := by
  cases e with
  | none => exact po_none
  | some e => exact po_some (pe_s e)
theorem wo_run {e : Option Expr} {Φ : Option Int → List Cell → Prop} (h : WO X e Γ S Φ Ξ) {σ : L2.St} {ρ : List Addr} {M H : Hp} {W : WX} {Q : Option Int → Hp → Prop} (ok : Ok (gd X) S ρ M H) (sl : Slots (gd X) M ρ σ Γ) (kx : Kx (gd X) S ρ M H Ξ W) (tk : Takes X W)
    (k : ∀ i S' ρ' M' H', Φ i S' → To S ρ M H S' ρ' M' H' → Ok (gd X) S' ρ' M' H' → Q i H') : sO X e σ H Q := by
  cases e with
  | none => exact k none S ρ M H h .refl ok
  | some e => exact (show WE X e Γ S _ Ξ from h) σ ρ M H _ W ok sl (fun d S' v ρ' M' H' ⟨i, e1, p⟩ t ok' r => by
      subst e1
      exact ⟨i, rp_int r, k _ S' ρ' M' H' p t ok'⟩) kx tk
theorem we_slice {r : V → Option Int → Option Int → Hp → VK → Prop} {lo hi : Option Expr} {p2 : Pos} (hr : SlR X r) (h : WE X e Γ S (fun x S1 => WO X lo Γ S1 (fun l S2 => WO X hi Γ S2 (fun u S3 => Rsl (gd X) r x l u S3 Φ) Ξ) Ξ) Ξ) : WE X (.Subscript e (.Slice lo hi none p2) pos) Γ S Φ Ξ :=
  fun σ ρ M H Q W ok sl kv kx tk => PE.s (pe_slice hr (pe_s e) (po_s lo) (po_s hi)) (h σ ρ M H _ W ok sl (fun x S1 vx ρ1 M1 H1 h1 t1 ok1 r1 =>
    wo_run h1 ok1 (t1.slots sl) (kx.to t1) tk fun l S2 ρ2 M2 H2 h2 t2 ok2 => wo_run h2 ok2 ((t1.trans t2).slots sl) (kx.to (t1.trans t2)) tk fun u S3 ρ3 M3 H3 h3 t3 ok3 =>
      h3 ρ3 M3 H3 vx Q ok3 ((t2.trans t3).rp r1) (kv.to ((t1.trans t2).trans t3))) kx tk)

/-! ### calls of builtins and of their methods -/
theorem we_callB {id : String} {x : Str} {p : Pos} {r : List V → Hp → VK → Prop} (hc : CallR X (.builtin id) r) (hg : Gl X x) (hm : X.mg x = none) (hv : bootBuiltins x = some (.builtin id)) (h : WA X (e :: es) Γ S (fun ds S1 => Rcs (gd X) r ds S1 Φ) Ξ) (hn : x ≠ "__name__" := by decide) (hdb : (x == ("__debug__" : Str)) = false := by decide)
    (he : starEach (e :: es) X.env = (false, eval e X.env) :: starEach es X.env := by rfl) (hpl : (backTo pos (starEach es X.env)).any (·.1) = false := by rfl) : WE X (.Call (.Name x p) (e :: es) [] pos) Γ S Φ Ξ :=
  fun σ ρ M H Q W ok sl kv kx tk => PE.s (pe_callB hc hg hm hv (pa_s (e :: es)) hn hdb he hpl) (h σ ρ M H _ W ok sl (fun ds S1 vs ρ1 M1 H1 h1 t1 ok1 r1 => h1 ρ1 M1 H1 vs Q ok1 r1 (kv.to t1)) kx tk)
theorem we_callTy {T : String} {x : Str} {p : Pos} {r : List V → Hp → VK → Prop} (hc : CallR X (.type T) r) (hg : Gl X x) (hm : X.mg x = none) (hv : bootBuiltins x = some (.type T)) (h : WA X (e :: es) Γ S (fun ds S1 => Rcs (gd X) r ds S1 Φ) Ξ) (hn : x ≠ "__name__" := by decide) (hdb : (x == ("__debug__" : Str)) = false := by decide)
    (he : starEach (e :: es) X.env = (false, eval e X.env) :: starEach es X.env := by rfl) (hpl : (backTo pos (starEach es X.env)).any (·.1) = false := by rfl) : WE X (.Call (.Name x p) (e :: es) [] pos) Γ S Φ Ξ :=
  fun σ ρ M H Q W ok sl kv kx tk => PE.s (pe_callTy hc hg hm hv (pa_s (e :: es)) hn hdb he hpl) (h σ ρ M H _ W ok sl (fun ds S1 vs ρ1 M1 H1 h1 t1 ok1 r1 => h1 ρ1 M1 H1 vs Q ok1 r1 (kv.to t1)) kx tk)
/-- a value is of a builtin type, here -/
def TyS (g : Gd) (T : String) (x : D) (S : List Cell) : Prop := ∀ ρ M H vx, Ok g S ρ M H → Rp g M ρ vx x → tyV g.K T vx H
theorem ty_str {g : Gd} {s : Str} : TyS g "str" (.str s) S := fun ρ M H vx ok r => by
  rw [rp_str r]
  rfl
theorem ty_lst {g : Gd} {x : D} {xs : List D} (h : LstD S x xs) : TyS g "list" x S := fun ρ M H vx ok r => by
  obtain ⟨a, vs, e, s, _⟩ := h.at ok r
  rw [e]
  exact .inl ⟨rfl, vs, s⟩
/-- a cell's dict with numbers or texts as keys -/
theorem we_bm {T id : String} {name : Str} {apos cpos : Pos} {r : V → List V → Hp → VK → Prop} (pa : PlainAttrs T) (slot : Slot T name id) (hty : typeOf (.builtin id) = pure (.type "method_descriptor")) (hm : MtR X id r)
    (h : WE X o Γ S (fun x S1 => TyS (gd X) T x S1 ∧ WA X (e :: es) Γ S1 (fun ds S2 => Rms (gd X) r x ds S2 Φ) Ξ) Ξ) (hbase : attributeBase o name X.env (eval o X.env) = eval o X.env := by rfl)
    (hfew : ((backTo cpos (starEach (e :: es) X.env)).all (fun x => !x.1) && (backToKw cpos (keywordEach [] X.env)).all (fun x => x.1.isSome)
      && decide ((e :: es).length + ([] : List Keyword).length + (if ([] : List Keyword).isEmpty then 0 else 1) < 30)) = true := by rfl)
    (hline : (apos.endLine == cpos.line) = true := by rfl) (hs : starEach (e :: es) X.env = (false, eval e X.env) :: starEach es X.env := by rfl) (hplain : (backTo cpos (starEach es X.env)).any (·.1) = false := by rfl) :
    WE X (.Call (.Attribute o name apos) (e :: es) [] cpos) Γ S Φ Ξ :=
  fun σ ρ M H Q W ok sl kv kx tk => PE.s (pe_bm pa slot hty hm (pe_s o) (pa_s (e :: es)) hbase hfew hline hs hplain) (h σ ρ M H _ W ok sl (fun x S1 vx ρ1 M1 H1 ⟨ty, h1⟩ t1 ok1 r1 =>
    ⟨ty ρ1 M1 H1 vx ok1 r1, h1 σ ρ1 M1 H1 _ W ok1 (t1.slots sl) (fun ds S2 vs ρ2 M2 H2 h2 t2 ok2 r2 => h2 ρ2 M2 H2 vx vs Q ok2 (t2.rp r1) r2 (kv.to (t1.trans t2))) (kx.to t1) tk⟩) kx tk)
theorem we_bm0 {T id : String} {name : Str} {apos cpos : Pos} {r : V → List V → Hp → VK → Prop} (pa : PlainAttrs T) (slot : Slot T name id) (hty : typeOf (.builtin id) = pure (.type "method_descriptor")) (hm : MtR X id r)
    (h : WE X o Γ S (fun x S1 => TyS (gd X) T x S1 ∧ Rms (gd X) r x [] S1 Φ) Ξ) (hbase : attributeBase o name X.env (eval o X.env) = eval o X.env := by rfl) (hline : (apos.endLine == cpos.line) = true := by rfl) :
    WE X (.Call (.Attribute o name apos) [] [] cpos) Γ S Φ Ξ :=
  fun σ ρ M H Q W ok sl kv kx tk => PE.s (pe_bm0 pa slot hty hm (pe_s o) hbase hline) (h σ ρ M H _ W ok sl (fun x S1 vx ρ1 M1 H1 ⟨ty, h1⟩ t1 ok1 r1 => ⟨ty ρ1 M1 H1 vx ok1 r1, h1 ρ1 M1 H1 vx [] Q ok1 r1 .nil (kv.to t1)⟩) kx tk)

/-! ### the law's own functions -/
/-- a def's promise over the store: the arguments, the store; what is wanted of the value; of an exception -/
abbrev Ct := List D → List Cell → (D → List Cell → Prop) → (Xn → List Cell → Prop) → Prop
def KxE (g : Gd) (S : List Cell) (ρ : List Addr) (M H : Hp) (Ψ : Xn → List Cell → Prop) (E : XK) : Prop :=
  ∀ x S' ρ' M' H' od, Ψ x S' → To S ρ M H S' ρ' M' H' → Ok g S' ρ' M' H' → XRep g M' H' ρ' x od → E (.ref x.C) od H'
def spOf (g : Gd) (c : Ct) : Sp := fun vs H Q E => ∃ ds S ρ M Φ Ψ, Ok g S ρ M H ∧ Rps g M ρ vs ds ∧ c ds S Φ Ψ ∧ Kv g S ρ M H Φ Q ∧ KxE g S ρ M H Ψ E
/-- the def at f keeps a promise over the store -/
abbrev FnS (X : Cx) (k : Nat) (f : Addr) (fd : FuncData) (ps : List Str) (c : Ct) : Prop := FnOk X.prog X.w X.K X.mg X.base (L2.CX X.prog X.w) k f fd ps (spOf (gd X) c)
variable {k : Nat} {f C : Addr} {fd : FuncData} {ps : List Str} {c : Ct} {x m : Str} {p apos : Pos}
theorem sp_go {g : Gd} {c : Ct} {S : List Cell} {ρ : List Addr} {M H : Hp} {σ : L2.St} {vs : List V} {ds : List D} {Q : VK} {W : WX} (ok : Ok g S ρ M H) (sl : Slots g M ρ σ Γ) (r : Rps g M ρ vs ds) (h : c ds S Φ (fun x S' => Ξ x Γ S')) (kv : Kv g S ρ M H Φ Q) (kx : Kx g S ρ M H Ξ W) : spOf g c vs H Q (L2.WE W σ) :=
  ⟨ds, S, ρ, M, Φ, _, ok, r, h, kv, fun x S' ρ' M' H' od p t ok' xr => kx x Γ S' σ ρ' M' H' od p t ok' (t.slots sl) xr⟩
theorem we_call (F : FnS X k f fd ps c) (hr : Room k X.A) (hm : X.mg x = some (.ref f)) (hk : PySem.W.keepIn X.K (.ref f) = true) (hb : Binds X.K fd ps []) (h : WA X (e :: es) Γ S (fun ds S1 => c ds S1 Φ (fun x S' => Ξ x Γ S')) Ξ)
    (hg : Gl X x := by rfl) (hdb : (x == ("__debug__" : Str)) = false := by decide) (he : starEach (e :: es) X.env = (false, eval e X.env) :: starEach es X.env := by rfl) (hpl : (backTo pos (starEach es X.env)).any (·.1) = false := by rfl) :
    WE X (.Call (.Name x p) (e :: es) [] pos) Γ S Φ Ξ :=
  fun σ ρ M H Q W ok sl kv kx tk => PE.s (pe_callS F hr hg hm hk hb (fun σ => passAt tk σ) (pa_s (e :: es)) hdb he hpl) (h σ ρ M H _ W ok sl (fun ds S1 vs ρ1 M1 H1 h1 t1 ok1 r1 => sp_go ok1 (t1.slots sl) r1 h1 (kv.to t1) (kx.to t1)) kx tk)
/-! methods, instances -/
def InsD (S : List Cell) (x : D) (C : Addr) (fs : List (Str × D)) : Prop := ∃ l, x = .ptr l ∧ S[l]? = some (.ins C fs)
theorem InsD.at {g : Gd} {x : D} {C : Addr} {fs : List (Str × D)} (h : InsD S x C fs) {ρ : List Addr} {M H : Hp} (ok : Ok g S ρ M H) {v : V} (r : Rp g M ρ v x) :
    ∃ a dx fv, v = .ref a ∧ H a = some (.ins C dx fv) ∧ fv.map (fun p => p.1) = fs.map (fun p => p.1) ∧ Rps g M ρ (fv.map fun p => p.2) (fs.map fun p => p.2) := by
  obtain ⟨l, rfl, hl⟩ := h
  obtain ⟨a, e, r⟩ := rp_ptr r
  cases ok.at_ l _ a hl r with
  | ins q n r2 => exact ⟨a, _, _, e, q, n, r2⟩
theorem fld_at {g : Gd} {M : Hp} {ρ : List Addr} {f : Str} {d : D} : ∀ {fv : List (Str × V)} {fs : List (Str × D)}, fv.map (fun p => p.1) = fs.map (fun p => p.1) → Rps g M ρ (fv.map fun p => p.2) (fs.map fun p => p.2) → fs.lookup f = some d → ∃ v, fv.lookup f = some v ∧ Rp g M ρ v d
  | [], [], _, _, e => by cases e
  | [], _ :: _, n, _, _ => by cases n
  | _ :: _, [], n, _, _ => by cases n
  | (a, v) :: fv, (b, d') :: fs, n, r, e => by
    simp only [List.map_cons, List.cons.injEq] at n
    obtain ⟨rfl, n⟩ := n
    cases r with
    | cons r1 r2 =>
      by_cases h : f = a
      · subst h
        simp only [List.lookup_cons, beq_self_eq_true, Option.some.injEq] at e ⊢
        subst e
        exact ⟨v, rfl, r1⟩
      · have hb : (f == a) = false := beq_eq_false_iff_ne.mpr h
        simp only [List.lookup_cons, hb] at e ⊢
        exact fld_at n r2 e
theorem fld_no {f : Str} : ∀ {fv : List (Str × V)} {fs : List (Str × D)}, fv.map (fun p => p.1) = fs.map (fun p => p.1) → fs.lookup f = none → fv.lookup f = none
  | [], [], _, _ => rfl
  | [], _ :: _, n, _ => by cases n
  | _ :: _, [], n, _ => by cases n
  | (a, v) :: fv, (b, d') :: fs, n, e => by
    simp only [List.map_cons, List.cons.injEq] at n
    obtain ⟨rfl, n⟩ := n
    by_cases h : f = a
    · subst h
      simp at e
    · have hb : (f == a) = false := beq_eq_false_iff_ne.mpr h
      simp only [List.lookup_cons, hb] at e ⊢
      exact fld_no n e
theorem we_fld (c : Cls X.K C) (n : NoAttr X.K C x) (h : WE X e Γ S (fun y S1 => ∃ fs d, InsD S1 y C fs ∧ fs.lookup x = some d ∧ Φ d S1) Ξ) (hb : attributeBase e x X.env (eval e X.env) = eval e X.env := by rfl) : WE X (.Attribute e x pos) Γ S Φ Ξ :=
  fun σ ρ M H Q W ok sl kv kx tk => PE.s (pe_fld (pe_s e) hb) (h σ ρ M H _ W ok sl (fun y S1 vy ρ1 M1 H1 ⟨fs, d, hi, hl, h1⟩ t1 ok1 r1 => by
    obtain ⟨a, dx, fv, e1, q, n1, r2⟩ := hi.at ok1 r1
    obtain ⟨v, ev, rv⟩ := fld_at n1 r2 hl
    exact ⟨a, C, dx, fv, v, e1, q, c, n, ev, kv d S1 v ρ1 M1 H1 h1 t1 ok1 rv⟩) kx tk)
theorem run_methS {pins : List (Addr × Obj)} {σ : L2.St} {H : Hp} {s : Shared} {Q : VK} {E : L2.St → XK} {us : List Value} {vs : List V} {sp : Sp} (F : FnOk X.prog X.w X.K X.mg X.base (L2.CX X.prog X.w) k f fd ps sp) (hr : Room k X.A) (hb : Binds X.K fd ps []) (hx : PassesAt (L2.CX X.prog X.w) X σ (E σ))
    (I : Inv X pins σ H s) (r : Vals vs us) (h : sp vs H Q (E σ)) : wpAny (model X.prog X.w) X.A (call (.ref f) us) (EP X pins σ Q) X.xe s := run_fnS F hr hb hx I r h
theorem we_meth {pl : Sem Bool} (cl : Cls X.K C) (hm : Meth X.K C m f) (F : FnS X k f fd ps c) (hr : Room k X.A) (hb : Binds X.K fd ps [])
    (h : WE X o Γ S (fun y S1 => (∃ fs, InsD S1 y C fs ∧ fs.lookup m = none) ∧ WA X (e :: es) Γ S1 (fun ds S2 => c (y :: ds) S2 Φ (fun x S' => Ξ x Γ S')) Ξ) Ξ)
    (hst : starEach (e :: es) X.env = (false, eval e X.env) :: starEach es X.env := by rfl) (hpl : (backTo pos (starEach es X.env)).any (·.1) = false := by rfl)
    (ht : eval (.Call (.Attribute o m apos) (e :: es) [] pos) X.env = (do
      let ov ← eval o X.env
      standAt apos.atName
      let (f, first) ← holding [ov] (getMethod ov m pl)
      callWith pos f first (backTo pos (starEach (e :: es) X.env)) (backToKw pos (keywordEach [] X.env))) := by rfl) : WE X (.Call (.Attribute o m apos) (e :: es) [] pos) Γ S Φ Ξ :=
  fun σ ρ M H Q W ok sl kv kx tk pins s I => by
    refine PySem.W.methodCall_KW (pl := pl) (thn ((pe_s o).run pins s σ H _ I (h σ ρ M H (fun vy H1 => ∃ a dx fv, vy = .ref a ∧ H1 a = some (.ins C dx fv) ∧ fv.lookup m = none ∧ sA X (e :: es) σ H1 fun vs H2 => spOf (gd X) c (vy :: vs) H2 Q (L2.WE W σ)) W ok sl (fun y S1 vy ρ1 M1 H1 ⟨⟨fs, hi, hl⟩, h1⟩ t1 ok1 r1 => by
      obtain ⟨a, dx, fv, e1, q, n1, r2⟩ := hi.at ok1 r1
      exact ⟨a, dx, fv, e1, q, fld_no n1 hl, h1 σ ρ1 M1 H1 _ W ok1 (t1.slots sl) (fun ds S2 vs ρ2 M2 H2 h2 t2 ok2 r2 => sp_go ok2 ((t1.trans t2).slots sl) (.cons (t2.rp r1) r2) h2 (kv.to (t1.trans t2)) (kx.to (t1.trans t2))) (kx.to t1) tk⟩) kx tk)) fun u s1 ⟨vy, H1, I1, rx, a, dx, fv, ex, ea, l, q⟩ => ?_) ht
    subst ex
    obtain rfl : u = Value.ref a := rx
    refine getmeth_ok I1 ea cl hm l ?_
    refine PySem.W.callWith_K (first := [.ref a]) (h₀ := X.base) I.ok.mod.kin hm.kp (thn ((pa_s (e :: es)).run pos pins s1 σ H1 _ I1 q) fun us s2 ⟨vs, H2, I2, r, q2⟩ => ⟨I2.kIn, ?_⟩) hst hpl
    exact run_fnS (us := .ref a :: us) (vs := .ref a :: vs) (E := fun σ => L2.WE W σ) F hr hb (passAt tk σ) I2 (.cons rfl r) q2
theorem we_meth0 {pl : Sem Bool} (cl : Cls X.K C) (hm : Meth X.K C m f) (F : FnS X k f fd ps c) (hr : Room k X.A) (hb : Binds X.K fd ps [])
    (h : WE X o Γ S (fun y S1 => (∃ fs, InsD S1 y C fs ∧ fs.lookup m = none) ∧ c [y] S1 Φ (fun x S' => Ξ x Γ S')) Ξ)
    (ht : eval (.Call (.Attribute o m apos) [] [] pos) X.env = (do
      let ov ← eval o X.env
      standAt apos.atName
      let (f, first) ← holding [ov] (getMethod ov m pl)
      callWith pos f first (backTo pos (starEach [] X.env)) (backToKw pos (keywordEach [] X.env))) := by rfl) : WE X (.Call (.Attribute o m apos) [] [] pos) Γ S Φ Ξ :=
  fun σ ρ M H Q W ok sl kv kx tk pins s I => by
    refine PySem.W.methodCall_KW (pl := pl) (thn ((pe_s o).run pins s σ H _ I (h σ ρ M H (fun vy H1 => ∃ a dx fv, vy = .ref a ∧ H1 a = some (.ins C dx fv) ∧ fv.lookup m = none ∧ spOf (gd X) c [vy] H1 Q (L2.WE W σ)) W ok sl (fun y S1 vy ρ1 M1 H1 ⟨⟨fs, hi, hl⟩, h1⟩ t1 ok1 r1 => by
      obtain ⟨a, dx, fv, e1, q, n1, r2⟩ := hi.at ok1 r1
      exact ⟨a, dx, fv, e1, q, fld_no n1 hl, sp_go ok1 (t1.slots sl) (.cons r1 .nil) h1 (kv.to t1) (kx.to t1)⟩) kx tk)) fun u s1 ⟨vy, H1, I1, rx, a, dx, fv, ex, ea, l, q⟩ => ?_) ht
    subst ex
    obtain rfl : u = Value.ref a := rx
    refine getmeth_ok I1 ea cl hm l ?_
    exact PySem.W.callWith_K0 (first := [.ref a]) I1.kIn hm.kp (run_fnS (us := [.ref a]) (vs := [.ref a]) (E := fun σ => L2.WE W σ) F hr hb (passAt tk σ) I1 (.cons rfl .nil) q)
/-- C(): a new instance; __init__ fills it -/
theorem Ok.made {g : Gd} {ρ : List Addr} {M H : Hp} (k : Ok g S ρ M H) {x dx : Addr} (hx : H x = none) (hd : H dx = none) (ne : dx ≠ x) :
    Ok g (S ++ [.ins C []]) (ρ ++ [x]) M (upd (upd H dx (.own x)) x (.ins C dx [])) ∧ To S ρ M H (S ++ [.ins C []]) (ρ ++ [x]) M (upd (upd H dx (.own x)) x (.ins C dx [])) := by
  have k1 : Ok g S ρ M (upd H dx (.own x)) ∧ To S ρ M H S ρ M (upd H dx (.own x)) := by
    have nd : ∀ b o, H b = some o → b ≠ dx := fun b o e q => by
      rw [q, hd] at e
      cases e
    refine ⟨⟨k.len, fun b o e => ?_, fun l c b e r => ?_, k.out, k.inj⟩, ⟨fun _ _ h => h, fun _ _ h => h, fun b o e _ => ?_, fun b h => .inl h, fun b h => .inr h⟩⟩
    · rw [upd_ne (nd b o (k.sub b o e))]
      exact k.sub b o e
    · by_cases hdd : c = .dead
      · subst hdd; exact .dead
      · exact (k.at_ l c b e r).mono (fun _ _ h => h) (fun _ _ h => h) fun o q => by
          rw [upd_ne (nd b o q)]
          exact q
    · rw [upd_ne (nd b o e)]
      exact e
  obtain ⟨k1, t1⟩ := k1
  have hx1 : (upd H dx (.own x)) x = none := by
    rw [upd_ne (Ne.symm ne)]
    exact hx
  obtain ⟨k2, t2⟩ := k1.more (o := .ins C dx []) (c := .ins C []) hx1 (.ins upd_same rfl .nil)
  exact ⟨k2, t1.trans t2⟩
theorem we_make0 (Mk_ : Mk X.K C f) (F : FnS X k f fd ps c) (hr : Room (k + 1) X.A) (hm : X.mg x = some (.ref C)) (hb : Binds X.K fd ps []) (h : c [.ptr S.length] (S ++ [.ins C []]) (fun d S' => d = .non ∧ Φ (.ptr S.length) S') (fun _ _ => False))
    (hg : Gl X x := by rfl) (hdb : (x == ("__debug__" : Str)) = false := by decide) : WE X (.Call (.Name x p) [] [] pos) Γ S Φ Ξ :=
  fun σ ρ M H Q W ok sl kv kx tk => PE.s (pe_make0 Mk_ F hr hg hm hb .nil passL hdb) (fun x dx hx hd ne => by
    obtain ⟨ok1, t1⟩ := ok.made (C := C) hx hd ne
    have hp : (ρ ++ [x])[S.length]? = some x := by
      rw [← ok.len]
      simp
    refine ⟨_, _, _, _, _, _, ok1, .cons (.ptr hp) .nil, h, fun d S' v ρ' M' H' ⟨e, p⟩ t ok' r => ?_, fun x S' ρ' M' H' od p => p.elim⟩
    subst e
    exact ⟨rp_non r, kv _ S' _ ρ' M' H' p (t1.trans t) ok' (.ptr (t.pre _ _ hp))⟩)
end

/-! ### targets -/
section
variable {X : Cx} {Γ : List (Option D)} {S : List Cell} {Φ : List (Option D) → List Cell → Prop} {Ξ : XP} {e o : Expr} {es : List Expr} {pos : Pos} {d : D}
theorem wg_name (i : Nat) {x : Str} (h : Φ (Γ.set i (some d)) S) (hN : X.N.Nodup) (hi : X.N[i]? = some x := by rfl) (hx : Loc X.env.scope x := by first | exact .inl rfl | exact .inr rfl) (hf : X.fn x = true ∨ X.env.scope.names.lookup x = some .local := by first | exact .inl rfl | exact .inr rfl | assumption) : WG X (.Name x pos) d Γ S Φ Ξ :=
  fun v σ ρ M H Q W ok sl r kn kx tk => PG.s (pg_name hN hi hx hf) (kn _ S _ ρ M H h .refl ok (sl.set r i))
def WGs (X : Cx) (ts : List Expr) (ds : List D) (Γ : List (Option D)) (S : List Cell) (Φ : List (Option D) → List Cell → Prop) (Ξ : XP) : Prop :=
  ∀ vs σ ρ M H Q W, Ok (gd X) S ρ M H → Slots (gd X) M ρ σ Γ → Rps (gd X) M ρ vs ds → Kn (gd X) S ρ M H Φ Q → Kx (gd X) S ρ M H Ξ W → Takes X W → ∀ (pins : List (Addr × Obj)) (s : Shared) (us : List Value), Inv X pins σ H s → Vals vs us →
    wpAny (model X.prog X.w) X.A (assignInOrder ((assignEach ts X.env).map (·.2)) us) (fun _ s' => ∃ σ' H', Inv X pins σ' H' s' ∧ Q σ' H') X.xe s
def sGs (X : Cx) (ts : List Expr) : TGs := fun vs σ H Q => ∀ (pins : List (Addr × Obj)) (s : Shared) (us : List Value), Inv X pins σ H s → Vals vs us →
    wpAny (model X.prog X.w) X.A (assignInOrder ((assignEach ts X.env).map (·.2)) us) (fun _ s' => ∃ σ' H', Inv X pins σ' H' s' ∧ Q σ' H') X.xe s
theorem pgs_s (ts : List Expr) : PGs X ts (sGs X ts) := ⟨fun pins s _ _ _ us _ I r h => h pins s us I r⟩
theorem wgs_nil (h : Φ Γ S) : WGs X [] [] Γ S Φ Ξ := fun vs σ ρ M H Q W ok sl r kn kx tk pins s us I rv => by
  cases r
  exact pgs_nil.run pins s σ H [] us Q I rv ⟨rfl, kn Γ S σ ρ M H h .refl ok sl⟩
theorem wgs_cons {ds : List D} (h : WG X e d Γ S (fun Γ1 S1 => WGs X es ds Γ1 S1 Φ Ξ) Ξ) (hs : (assignEach (e :: es) X.env).map (·.2) = assign e X.env :: (assignEach es X.env).map (·.2) := by rfl) : WGs X (e :: es) (d :: ds) Γ S Φ Ξ :=
  fun vs σ ρ M H Q W ok sl r kn kx tk pins s us I rv => by
    cases r with
    | cons r1 r2 =>
      refine (pgs_cons (pg_s e) (pgs_s es) hs).run pins s σ H _ us Q I rv ⟨_, _, rfl, ?_⟩
      exact h _ σ ρ M H _ W ok sl r1 (fun Γ1 S1 σ1 ρ1 M1 H1 h1 t1 ok1 sl1 => fun pins s us I rv => h1 _ σ1 ρ1 M1 H1 Q W ok1 sl1 (t1.rps r2) (kn.to t1) (kx.to t1) tk pins s us I rv) kx tk
theorem wg_tup {k n : Nat} {ds : List D} (hc : X.calm = true) (h : WGs X es ds Γ S Φ Ξ) (hl : ds.length = n := by rfl) (hn : (assignEach es X.env).length = n := by rfl) (hst : (assignEach es X.env).findIdx? (·.1) = none := by rfl) : WG X (.Tuple es k pos) (.tup ds) Γ S Φ Ξ :=
  fun v σ ρ M H Q W ok sl r kn kx tk => PG.s (pg_tup hc (pgs_s es) hn hst) (by
    obtain ⟨a, vs, e1, s1, r1⟩ := rp_tup r
    exact ⟨a, vs, e1, seqT ok.sub s1, by rw [r1.length]; exact hl, fun pins s us I rv => h vs σ ρ M H Q W ok sl r1 kn kx tk pins s us I rv⟩)
end

/-! ### statements -/
section
variable {X : Cx} {Γ : List (Option D)} {S : List Cell} {P : Post} {e : Expr} {st : Stmt} {sts : List Stmt} {pos : Pos}
theorem wb_nil (h : P.nx Γ S) : WB X [] Γ S P := fun σ ρ M H E ok sl st => PSs.s pss_nil (st.nx Γ S σ ρ M H h .refl ok sl)
theorem wb_cons (h : WS X st Γ S { P with nx := fun Γ1 S1 => WB X sts Γ1 S1 P }) : WB X (st :: sts) Γ S P := fun σ ρ M H E ok sl sat => PSs.s (pss_cons (ps_s st) (pb_s sts)) (h σ ρ M H { E with nx := sB X sts E } ok sl
  ⟨fun Γ1 S1 σ1 ρ1 M1 H1 h1 t1 ok1 sl1 => h1 σ1 ρ1 M1 H1 E ok1 sl1 (sat.to t1), sat.rt, sat.bk, sat.ct, sat.ex⟩)
theorem ws_expr (h : WE X e Γ S (fun _ S1 => P.nx Γ S1) P.ex) (hs : swapsWith e none pos.line X.env = pure false := by rfl) : WS X (.Expr e pos) Γ S P := fun σ ρ M H E ok sl sat => by
  obtain ⟨W, kx, tk⟩ := sat.ex
  exact PS.s (ps_expr (pe_s e) hs) (h σ ρ M H _ W ok sl (fun d S1 v ρ1 M1 H1 p t1 ok1 r1 => sat.nx Γ S1 σ ρ1 M1 H1 p t1 ok1 (t1.slots sl)) kx tk)
theorem ws_ret (h : WE X e Γ S P.rt P.ex) : WS X (.Return (some e) pos) Γ S P := fun σ ρ M H E ok sl sat => by
  obtain ⟨W, kx, tk⟩ := sat.ex
  exact PS.s (ps_ret (pe_s e)) (h σ ρ M H _ W ok sl sat.rt kx tk)
theorem ws_retN (h : P.rt .non S) : WS X (.Return none pos) Γ S P := fun σ ρ M H E ok sl sat => PS.s ps_retN (sat.rt .non S .non ρ M H h .refl ok .non)
theorem ws_set (i : Nat) {x : Str} {pos' : Pos} (hN : X.N.Nodup) (h : WE X e Γ S (fun d S1 => P.nx (Γ.set i (some d)) S1) P.ex) (hi : X.N[i]? = some x := by rfl) (hx : Loc X.env.scope x := by first | exact .inl rfl | exact .inr rfl)
    (hs : swapsWith e (some (.Name x pos')) pos.line X.env = pure false := by rfl) (hf : X.fn x = true ∨ X.env.scope.names.lookup x = some .local := by first | exact .inl rfl | exact .inr rfl | assumption) : WS X (.Assign [.Name x pos'] e pos) Γ S P := fun σ ρ M H E ok sl sat => by
  obtain ⟨W, kx, tk⟩ := sat.ex
  exact PS.s (ps_set hN hi hx (pe_s e) hs hf) (h σ ρ M H _ W ok sl (fun d S1 v ρ1 M1 H1 p t1 ok1 r1 => sat.nx _ S1 _ ρ1 M1 H1 p t1 ok1 ((t1.slots sl).set r1 i)) kx tk)
theorem ws_asg {tg : Expr} (h : WE X e Γ S (fun d S1 => WG X tg d Γ S1 P.nx P.ex) P.ex) (hs : swapsWithSole [tg] e pos.line X.env = pure false := by rfl) (hw : swappedStores [tg] e X.env = pure none := by rfl)
    (h1 : (assignEach [tg] X.env).map (·.2) = [assign tg X.env] := by rfl) : WS X (.Assign [tg] e pos) Γ S P := fun σ ρ M H E ok sl sat => by
  obtain ⟨W, kx, tk⟩ := sat.ex
  exact PS.s (ps_asg (pe_s e) (pg_s tg) hs hw h1) (h σ ρ M H _ W ok sl (fun d S1 v ρ1 M1 H1 p t1 ok1 r1 => p v σ ρ1 M1 H1 E.nx W ok1 (t1.slots sl) r1 (sat.nx.to t1) (kx.to t1) tk) kx tk)
theorem ws_if {a b : List Stmt} (h : WT X e Γ S (fun k S1 => if k = true then WB X a Γ S1 P else WB X b Γ S1 P) P.ex) : WS X (.If e a b pos) Γ S P := fun σ ρ M H E ok sl sat => by
  obtain ⟨W, kx, tk⟩ := sat.ex
  exact PS.s (ps_if (pt_s e) (pb_s a) (pb_s b)) (h σ ρ M H _ W ok sl (fun k S1 ρ1 M1 H1 p t1 ok1 => by
    cases k with
    | true => exact p σ ρ1 M1 H1 E ok1 (t1.slots sl) (sat.to t1)
    | false => exact p σ ρ1 M1 H1 E ok1 (t1.slots sl) (sat.to t1)) kx tk)
theorem ws_pass (h : P.nx Γ S) : WS X (.Pass pos) Γ S P := fun σ ρ M H E ok sl sat => PS.s ps_pass (sat.nx Γ S σ ρ M H h .refl ok sl)
theorem ws_break (h : P.bk Γ S) : WS X (.Break pos) Γ S P := fun σ ρ M H E ok sl sat => PS.s ps_break (sat.bk Γ S σ ρ M H h .refl ok sl)
theorem ws_continue (h : P.ct Γ S) : WS X (.Continue pos) Γ S P := fun σ ρ M H E ok sl sat => PS.s ps_continue (sat.ct Γ S σ ρ M H h .refl ok sl)
theorem WB.imp {P' : Post} (h : WB X sts Γ S P) (hn : ∀ Γ S, P.nx Γ S → P'.nx Γ S) (hr : ∀ d S, P.rt d S → P'.rt d S) (hb : ∀ Γ S, P.bk Γ S → P'.bk Γ S) (hc : ∀ Γ S, P.ct Γ S → P'.ct Γ S) (hx : ∀ x Γ S, P.ex x Γ S → P'.ex x Γ S) : WB X sts Γ S P' := fun σ ρ M H E ok sl sat =>
  h σ ρ M H E ok sl ⟨fun Γ1 S1 σ1 ρ1 M1 H1 h1 => sat.nx Γ1 S1 σ1 ρ1 M1 H1 (hn _ _ h1), fun d S1 v ρ1 M1 H1 h1 => sat.rt d S1 v ρ1 M1 H1 (hr _ _ h1), fun Γ1 S1 σ1 ρ1 M1 H1 h1 => sat.bk Γ1 S1 σ1 ρ1 M1 H1 (hb _ _ h1),
    fun Γ1 S1 σ1 ρ1 M1 H1 h1 => sat.ct Γ1 S1 σ1 ρ1 M1 H1 (hc _ _ h1), let ⟨W, kx, tk⟩ := sat.ex; ⟨W, fun x Γ1 S1 σ1 ρ1 M1 H1 od h1 => kx x Γ1 S1 σ1 ρ1 M1 H1 od (hx _ _ _ h1), tk⟩⟩

/-! ### loops -/
/-- for over a list that stands: I what holds ahead of turn i -/
theorem ws_for {tg iter : Expr} {body : List Stmt} (hp : PassesOwn (model X.prog X.w) X.A X.env X.xe) (hc : X.calm = true) (hl : WE X iter Γ S (fun d S1 => ∃ ds, ∃ I : Nat → List (Option D) → List Cell → Prop, I 0 Γ S1 ∧ (∀ i Γ' S', i ≤ ds.length → I i Γ' S' → LstD S' d ds) ∧
      (∀ i x Γ' S', ds[i]? = some x → I i Γ' S' → WG X tg x Γ' S' (fun Γ2 S2 => WB X body Γ2 S2 { P with nx := I (i + 1), ct := I (i + 1), bk := P.nx }) P.ex) ∧ (∀ Γ' S', I ds.length Γ' S' → P.nx Γ' S')) P.ex)
    (hs : ∀ x, foldedSetIterable iter X.env x = pure x := by intro _; rfl) : WS X (.For tg iter body [] pos) Γ S P := fun σ ρ M H E ok sl sat => by
  obtain ⟨W, kx, tk⟩ := sat.ex
  refine PS.s (ps_for hp hc (pi_list (pe_s iter)) (pg_s tg) (pb_s body) hs) (hl σ ρ M H _ W ok sl (fun d S1 v ρ1 M1 H1 ⟨ds, I, h0, hst, hi, hd⟩ t1 ok1 r1 => ?_) kx tk)
  obtain ⟨a, vs, e1, q1, rs⟩ := (hst 0 Γ S1 (Nat.zero_le _) h0).at ok1 r1
  refine ⟨a, e1, ⟨vs, q1⟩, fun i m σ' H' => m = ds.length - i ∧ i ≤ ds.length ∧ ∃ Γ' S' ρ' M', I i Γ' S' ∧ To S1 ρ1 M1 H1 S' ρ' M' H' ∧ Ok (gd X) S' ρ' M' H' ∧ Slots (gd X) M' ρ' σ' Γ',
    ⟨ds.length, rfl, Nat.zero_le _, Γ, S1, ρ1, M1, h0, .refl, ok1, t1.slots sl⟩, ?_⟩
  rintro i m σ' H' ⟨rfl, hle, Γ', S', ρ', M', hI, t', ok', sl'⟩
  obtain ⟨a', vs', e', q', rs'⟩ := (hst i Γ' S' hle hI).at ok' (t'.rp r1)
  have ea : a' = a := by
    rw [e1] at e'
    exact (V.ref.inj e').symm
  subst ea
  by_cases hlt : i < ds.length
  · have hx : ds[i]? = some ds[i] := by simp [hlt]
    obtain ⟨vx, ev, rx⟩ := rs'.get hx
    refine .inr ⟨⟨vs', vx, q', ev⟩, fun σ2 H2 => i + 1 ≤ ds.length ∧ ∃ Γ' S' ρ' M', I (i + 1) Γ' S' ∧ To S1 ρ1 M1 H1 S' ρ' M' H2 ∧ Ok (gd X) S' ρ' M' H2 ∧ Slots (gd X) M' ρ' σ2 Γ', fun σ2 H2 ⟨hl2, p⟩ => ⟨ds.length - (i + 1), by omega, rfl, hl2, p⟩, fun x H2 ⟨eH, hx2⟩ => ?_⟩
    subst eH
    have e3 := hx2 vs' q'
    rw [ev] at e3
    cases e3
    refine hi i ds[i] Γ' S' hx hI vx σ' ρ' M' _ _ W ok' sl' rx (fun Γ2 S2 σ2 ρ2 M2 H2 h2 t2 ok2 sl2 => h2 σ2 ρ2 M2 H2 _ ok2 sl2 ?_) (kx.to (t1.trans t')) tk
    have again : ∀ Γ3 S3 σ3 ρ3 M3 H3, I (i + 1) Γ3 S3 → To S2 ρ2 M2 H2 S3 ρ3 M3 H3 → Ok (gd X) S3 ρ3 M3 H3 → Slots (gd X) M3 ρ3 σ3 Γ3 →
        i + 1 ≤ ds.length ∧ ∃ Γ' S' ρ' M', I (i + 1) Γ' S' ∧ To S1 ρ1 M1 H1 S' ρ' M' H3 ∧ Ok (gd X) S' ρ' M' H3 ∧ Slots (gd X) M' ρ' σ3 Γ' := fun Γ3 S3 σ3 ρ3 M3 H3 h3 t3 ok3 sl3 =>
      ⟨hlt, Γ3, S3, ρ3, M3, h3, (t'.trans t2).trans t3, ok3, sl3⟩
    exact ⟨again, sat.rt.to ((t1.trans t').trans t2), sat.nx.to ((t1.trans t').trans t2), again, ⟨W, kx.to ((t1.trans t').trans t2), tk⟩⟩
  · have e : i = ds.length := by omega
    subst e
    exact .inl ⟨⟨vs', q', by rw [rs'.length]; exact Nat.le_refl _⟩, sat.nx Γ' S' σ' ρ' M' H' (hd Γ' S' hI) (t1.trans t') ok' sl'⟩
/-- .. over a tuple -/
theorem ws_forT {tg iter : Expr} {body : List Stmt} (hp : PassesOwn (model X.prog X.w) X.A X.env X.xe) (hc : X.calm = true) (hl : WE X iter Γ S (fun d S1 => ∃ ds, ∃ I : Nat → List (Option D) → List Cell → Prop, d = .tup ds ∧ I 0 Γ S1 ∧
      (∀ i x Γ' S', ds[i]? = some x → I i Γ' S' → WG X tg x Γ' S' (fun Γ2 S2 => WB X body Γ2 S2 { P with nx := I (i + 1), ct := I (i + 1), bk := P.nx }) P.ex) ∧ (∀ Γ' S', I ds.length Γ' S' → P.nx Γ' S')) P.ex)
    (hs : ∀ x, foldedSetIterable iter X.env x = pure x := by intro _; rfl) : WS X (.For tg iter body [] pos) Γ S P := fun σ ρ M H E ok sl sat => by
  obtain ⟨W, kx, tk⟩ := sat.ex
  refine PS.s (ps_for hp hc (pi_tup (pe_s iter)) (pg_s tg) (pb_s body) hs) (hl σ ρ M H _ W ok sl (fun d S1 v ρ1 M1 H1 ⟨ds, I, ed, h0, hi, hd⟩ t1 ok1 r1 => ?_) kx tk)
  subst ed
  obtain ⟨a, vs, e1, q1, rs⟩ := rp_tup r1
  refine ⟨a, e1, ⟨vs, seqT ok1.sub q1⟩, for_tup (K := X.K) (a := a) (xs := vs) (fun i σ' H' => i ≤ ds.length ∧ ∃ Γ' S' ρ' M', I i Γ' S' ∧ To S1 ρ1 M1 H1 S' ρ' M' H' ∧ Ok (gd X) S' ρ' M' H' ∧ Slots (gd X) M' ρ' σ' Γ')
    ⟨Nat.zero_le _, Γ, S1, ρ1, M1, h0, .refl, ok1, t1.slots sl⟩ (fun i σ' H' _ ⟨_, _, _, _, _, _, t', ok', _⟩ => seqT ok'.sub (seqT t'.pm q1)) ?_ ?_⟩
  · rintro i x σ' H' hx ⟨_, Γ', S', ρ', M', hI, t', ok', sl'⟩
    obtain ⟨dx, ex, rx⟩ := (t'.rps rs).getV hx
    have hlt : i < ds.length := (List.getElem?_eq_some_iff.mp ex).1
    refine hi i dx Γ' S' ex hI x σ' ρ' M' H' _ W ok' sl' rx (fun Γ2 S2 σ2 ρ2 M2 H2 h2 t2 ok2 sl2 => h2 σ2 ρ2 M2 H2 _ ok2 sl2 ?_) (kx.to (t1.trans t')) tk
    have again : ∀ Γ3 S3 σ3 ρ3 M3 H3, I (i + 1) Γ3 S3 → To S2 ρ2 M2 H2 S3 ρ3 M3 H3 → Ok (gd X) S3 ρ3 M3 H3 → Slots (gd X) M3 ρ3 σ3 Γ3 →
        i + 1 ≤ ds.length ∧ ∃ Γ' S' ρ' M', I (i + 1) Γ' S' ∧ To S1 ρ1 M1 H1 S' ρ' M' H3 ∧ Ok (gd X) S' ρ' M' H3 ∧ Slots (gd X) M' ρ' σ3 Γ' := fun Γ3 S3 σ3 ρ3 M3 H3 h3 t3 ok3 sl3 =>
      ⟨hlt, Γ3, S3, ρ3, M3, h3, (t'.trans t2).trans t3, ok3, sl3⟩
    exact ⟨again, sat.rt.to ((t1.trans t').trans t2), sat.nx.to ((t1.trans t').trans t2), again, ⟨W, kx.to ((t1.trans t').trans t2), tk⟩⟩
  · rintro σ' H' ⟨_, Γ', S', ρ', M', hI, t', ok', sl'⟩
    rw [rs.length] at hI
    exact sat.nx Γ' S' σ' ρ' M' H' (hd Γ' S' hI) (t1.trans t') ok' sl'
/-- while, by an invariant over a number that falls -/
theorem ws_while {body : List Stmt} (hp : PassesOwn (model X.prog X.w) X.A X.env X.xe) (I : Nat → List (Option D) → List Cell → Prop) (n : Nat) (h0 : I n Γ S)
    (hi : ∀ m Γ' S', I m Γ' S' → WT X e Γ' S' (fun k S1 => if k = true then WB X body Γ' S1 { P with nx := fun Γ2 S2 => ∃ m', m' < m ∧ I m' Γ2 S2, ct := fun Γ2 S2 => ∃ m', m' < m ∧ I m' Γ2 S2, bk := P.nx } else P.nx Γ' S1) P.ex) : WS X (.While e body [] pos) Γ S P := fun σ ρ M H E ok sl sat => by
  obtain ⟨W, kx, tk⟩ := sat.ex
  refine PS.s (ps_while hp (pt_s e) (pb_s body)) ⟨fun m σ' H' => ∃ Γ' S' ρ' M', I m Γ' S' ∧ To S ρ M H S' ρ' M' H' ∧ Ok (gd X) S' ρ' M' H' ∧ Slots (gd X) M' ρ' σ' Γ', ⟨n, Γ, S, ρ, M, h0, .refl, ok, sl⟩, ?_⟩
  rintro m σ' H' ⟨Γ', S', ρ', M', hI, t', ok', sl'⟩
  refine hi m Γ' S' hI σ' ρ' M' H' _ W ok' sl' (fun k S1 ρ1 M1 H1 p t1 ok1 => ?_) (kx.to t') tk
  cases k with
  | true =>
    refine ⟨fun σ2 H2 => ∃ m', m' < m ∧ ∃ Γ' S' ρ' M', I m' Γ' S' ∧ To S ρ M H S' ρ' M' H2 ∧ Ok (gd X) S' ρ' M' H2 ∧ Slots (gd X) M' ρ' σ2 Γ', fun σ2 H2 p => p, ?_⟩
    refine (show WB X body Γ' S1 _ from p) σ' ρ1 M1 H1 _ ok1 (t1.slots sl') ?_
    have tt := t'.trans t1
    have again : ∀ Γ3 S3 σ3 ρ3 M3 H3, (∃ m', m' < m ∧ I m' Γ3 S3) → To S1 ρ1 M1 H1 S3 ρ3 M3 H3 → Ok (gd X) S3 ρ3 M3 H3 → Slots (gd X) M3 ρ3 σ3 Γ3 →
        ∃ m', m' < m ∧ ∃ Γ' S' ρ' M', I m' Γ' S' ∧ To S ρ M H S' ρ' M' H3 ∧ Ok (gd X) S' ρ' M' H3 ∧ Slots (gd X) M' ρ' σ3 Γ' := fun Γ3 S3 σ3 ρ3 M3 H3 ⟨m', hm, h3⟩ t3 ok3 sl3 =>
      ⟨m', hm, Γ3, S3, ρ3, M3, h3, tt.trans t3, ok3, sl3⟩
    exact ⟨again, sat.rt.to tt, sat.nx.to tt, again, ⟨W, kx.to tt, tk⟩⟩
  | false =>
    show E.nx σ' H1
    exact sat.nx Γ' S1 σ' ρ1 M1 H1 p (t'.trans t1) ok1 (t1.slots sl')
end
end Ab
set_option Elab.async false
set_option linter.all false
set_option maxRecDepth 100000
set_option maxHeartbeats 4000000
/-! What is walked; comprehensions; a def's promise by its body. -/
namespace Ab
open PySem PySem.Spec PyProof.Rows L2

/-! ### what is walked -/
/-- an iterator gives the data ds, one by one, while the store is as G says -/
structure SrcOk (g : Gd) (J : It) (ds : List D) (G : List Cell → Prop) (S : List Cell) (ρ : List Addr) (M H : Hp) : Prop where
  go : ∀ i S' ρ' M' H', Up ρ M ρ' M' → Ok g S' ρ' M' H' → G S' → i < ds.length → J.go i H'
  yld : ∀ i S' ρ' M' H' x H2, Up ρ M ρ' M' → Ok g S' ρ' M' H' → G S' → i < ds.length → J.yld i H' x H2 → ∃ d M2, ds[i]? = some d ∧ To S' ρ' M' H' S' ρ' M2 H2 ∧ Ok g S' ρ' M2 H2 ∧ Rp g M2 ρ' x d
  stop : ∀ S' ρ' M' H', Up ρ M ρ' M' → Ok g S' ρ' M' H' → G S' → J.stop ds.length H'
def WI (X : Cx) (tg iter : Expr) (Γ : List (Option D)) (S : List Cell) (Φ : List D → (List Cell → Prop) → List Cell → Prop) (Ξ : XP) : Prop :=
  ∃ wi, PI X tg iter wi ∧ ∀ σ ρ M H R W, Ok (gd X) S ρ M H → Slots (gd X) M ρ σ Γ →
    (∀ J ds G S' ρ' M' H', Φ ds G S' → To S ρ M H S' ρ' M' H' → Ok (gd X) S' ρ' M' H' → SrcOk (gd X) J ds G S' ρ' M' H' → R J H') → Kx (gd X) S ρ M H Ξ W → Takes X W → wi σ H R
section
variable {X : Cx} {Γ : List (Option D)} {S : List Cell} {Φ : List D → (List Cell → Prop) → List Cell → Prop} {Ξ : XP} {tg e : Expr} {pos : Pos}
theorem wi_list (h : WE X e Γ S (fun d S1 => ∃ ds, LstD S1 d ds ∧ Φ ds (fun S' => LstD S' d ds) S1) Ξ) : WI X tg e Γ S Φ Ξ :=
  ⟨_, pi_list (pe_s e), fun σ ρ M H R W ok sl k kx tk => h σ ρ M H _ W ok sl (fun d S1 v ρ1 M1 H1 ⟨ds, hl, p⟩ t1 ok1 r1 => by
    obtain ⟨a, vs, e1, q1, rs⟩ := hl.at ok1 r1
    refine ⟨a, e1, ⟨vs, q1⟩, k _ ds _ S1 ρ1 M1 H1 p t1 ok1 ?_⟩
    have get : ∀ S' ρ' M' H', Up ρ1 M1 ρ' M' → Ok (gd X) S' ρ' M' H' → LstD S' d ds → ∃ vs', SqL X.K H' a vs' ∧ Rps (gd X) M' ρ' vs' ds := fun S' ρ' M' H' t' ok' hl' => by
      obtain ⟨a', vs', e', q', rs'⟩ := hl'.at ok' (t'.rp r1)
      rw [e1] at e'
      cases e'
      exact ⟨vs', q', rs'⟩
    refine ⟨fun i S' ρ' M' H' t' ok' g' hi => ?_, fun i S' ρ' M' H' x H2 t' ok' g' hi y => ?_, fun S' ρ' M' H' t' ok' g' => ?_⟩
    · obtain ⟨vs', q', rs'⟩ := get S' ρ' M' H' t' ok' g'
      have hx : ds[i]? = some ds[i] := by simp [hi]
      obtain ⟨vx, ev, _⟩ := rs'.get hx
      exact ⟨vs', vx, q', ev⟩
    · obtain ⟨vs', q', rs'⟩ := get S' ρ' M' H' t' ok' g'
      obtain ⟨rfl, y⟩ := y
      obtain ⟨dx, ed, rx⟩ := rs'.getV (y vs' q')
      exact ⟨dx, M', ed, .refl, ok', rx⟩
    · obtain ⟨vs', q', rs'⟩ := get S' ρ' M' H' t' ok' g'
      exact ⟨vs', q', by rw [rs'.length]; exact Nat.le_refl _⟩) kx tk⟩
theorem wi_tup (h : WE X e Γ S (fun d S1 => ∃ ds, d = .tup ds ∧ Φ ds (fun _ => True) S1) Ξ) : WI X tg e Γ S Φ Ξ :=
  ⟨_, pi_tup (pe_s e), fun σ ρ M H R W ok sl k kx tk => h σ ρ M H _ W ok sl (fun d S1 v ρ1 M1 H1 ⟨ds, hl, p⟩ t1 ok1 r1 => by
    subst hl
    obtain ⟨a, vs, e1, q1, rs⟩ := rp_tup r1
    refine ⟨a, e1, ⟨vs, seqT ok1.sub q1⟩, k _ ds _ S1 ρ1 M1 H1 p t1 ok1 ?_⟩
    refine ⟨fun i S' ρ' M' H' t' ok' g' hi => ?_, fun i S' ρ' M' H' x H2 t' ok' g' hi y => ?_, fun S' ρ' M' H' t' ok' g' => ?_⟩
    · have hx : ds[i]? = some ds[i] := by simp [hi]
      obtain ⟨vx, ev, _⟩ := rs.get hx
      exact ⟨vs, vx, seqT ok'.sub (seqT t'.pm q1), ev⟩
    · obtain ⟨rfl, y⟩ := y
      obtain ⟨dx, ed, rx⟩ := (t'.rps rs).getV (y vs (seqT ok'.sub (seqT t'.pm q1)))
      exact ⟨dx, M', ed, .refl, ok', rx⟩
    · exact ⟨vs, seqT ok'.sub (seqT t'.pm q1), by rw [rs.length]; exact Nat.le_refl _⟩) kx tk⟩
end

/-! ### a for over any source -/
section
variable {X : Cx} {Γ : List (Option D)} {S : List Cell} {P : Post} {pos : Pos}
theorem ws_forI {tg iter : Expr} {body : List Stmt} (hp : PassesOwn (model X.prog X.w) X.A X.env X.xe) (hc : X.calm = true) (hl : WI X tg iter Γ S (fun ds G S1 => ∃ I : Nat → List (Option D) → List Cell → Prop, I 0 Γ S1 ∧ (∀ i Γ' S', i ≤ ds.length → I i Γ' S' → G S') ∧
      (∀ i x Γ' S', ds[i]? = some x → I i Γ' S' → WG X tg x Γ' S' (fun Γ2 S2 => WB X body Γ2 S2 { P with nx := I (i + 1), ct := I (i + 1), bk := P.nx }) P.ex) ∧ (∀ Γ' S', I ds.length Γ' S' → P.nx Γ' S')) P.ex)
    (hs : ∀ x, foldedSetIterable iter X.env x = pure x := by intro _; rfl) : WS X (.For tg iter body [] pos) Γ S P := fun σ ρ M H E ok sl sat => by
  obtain ⟨W, kx, tk⟩ := sat.ex
  obtain ⟨wi, hwi, hl⟩ := hl
  refine PS.s (ps_for hp hc hwi (pg_s tg) (pb_s body) hs) (hl σ ρ M H _ W ok sl (fun J ds G S1 ρ1 M1 H1 ⟨I, h0, hst, hi, hd⟩ t1 ok1 src => ?_) kx tk)
  refine ⟨fun i m σ' H' => m = ds.length - i ∧ i ≤ ds.length ∧ ∃ Γ' S' ρ' M', I i Γ' S' ∧ To S1 ρ1 M1 H1 S' ρ' M' H' ∧ Ok (gd X) S' ρ' M' H' ∧ Slots (gd X) M' ρ' σ' Γ',
    ⟨ds.length, rfl, Nat.zero_le _, Γ, S1, ρ1, M1, h0, .refl, ok1, t1.slots sl⟩, ?_⟩
  rintro i m σ' H' ⟨rfl, hle, Γ', S', ρ', M', hI, t', ok', sl'⟩
  have hG := hst i Γ' S' hle hI
  by_cases hlt : i < ds.length
  · refine .inr ⟨src.go i S' ρ' M' H' t'.up ok' hG hlt, fun σ2 H2 => i + 1 ≤ ds.length ∧ ∃ Γ' S' ρ' M', I (i + 1) Γ' S' ∧ To S1 ρ1 M1 H1 S' ρ' M' H2 ∧ Ok (gd X) S' ρ' M' H2 ∧ Slots (gd X) M' ρ' σ2 Γ', fun σ2 H2 ⟨hl2, p⟩ => ⟨ds.length - (i + 1), by omega, rfl, hl2, p⟩, fun x H2 y => ?_⟩
    obtain ⟨d, M2, ed, ty, oky, rx⟩ := src.yld i S' ρ' M' H' x H2 t'.up ok' hG hlt y
    have t2' := t'.trans ty
    refine hi i d Γ' S' ed hI x σ' ρ' M2 H2 _ W oky (ty.slots sl') rx (fun Γ2 S2 σ2 ρ2 M2 H2 h2 t2 ok2 sl2 => h2 σ2 ρ2 M2 H2 _ ok2 sl2 ?_) (kx.to (t1.trans t2')) tk
    have again : ∀ Γ3 S3 σ3 ρ3 M3 H3, I (i + 1) Γ3 S3 → To S2 ρ2 M2 H2 S3 ρ3 M3 H3 → Ok (gd X) S3 ρ3 M3 H3 → Slots (gd X) M3 ρ3 σ3 Γ3 →
        i + 1 ≤ ds.length ∧ ∃ Γ' S' ρ' M', I (i + 1) Γ' S' ∧ To S1 ρ1 M1 H1 S' ρ' M' H3 ∧ Ok (gd X) S' ρ' M' H3 ∧ Slots (gd X) M' ρ' σ3 Γ' := fun Γ3 S3 σ3 ρ3 M3 H3 h3 t3 ok3 sl3 =>
      ⟨hlt, Γ3, S3, ρ3, M3, h3, (t2'.trans t2).trans t3, ok3, sl3⟩
    exact ⟨again, sat.rt.to ((t1.trans t2').trans t2), sat.nx.to ((t1.trans t2').trans t2), again, ⟨W, kx.to ((t1.trans t2').trans t2), tk⟩⟩
  · have e : i = ds.length := by omega
    subst e
    exact .inl ⟨src.stop S' ρ' M' H' t'.up ok' hG, sat.nx Γ' S' σ' ρ' M' H' (hd Γ' S' hI) (t1.trans t') ok' sl'⟩
end

/-! ### the target of a comprehension -/
def wipeD (Γ : List (Option D)) : List Nat → List (Option D)
  | [] => Γ
  | v :: vs => (wipeD Γ vs).set v none
theorem set_swap {α : Type} (l : List α) (i j : Nat) (x y : α) (h : i ≠ j) : (l.set i x).set j y = (l.set j y).set i x := by
  rw [List.set_comm _ _ h]
theorem wipe_set {y : Option V} : ∀ {vs : List Nat} {σ : L2.St} {j : Nat}, j ∈ vs → L2.wipe (σ.set j y) vs = L2.wipe σ vs
  | [], _, _, h => by cases h
  | v :: vs, σ, j, h => by
    show (L2.wipe (σ.set j y) vs).set v none = (L2.wipe σ vs).set v none
    by_cases hj : j ∈ vs
    · rw [wipe_set hj]
    · have e : j = v := by
        rcases List.mem_cons.mp h with e | e
        · exact e
        · exact absurd e hj
      subst e
      have : ∀ (us : List Nat), j ∉ us → L2.wipe (σ.set j y) us = (L2.wipe σ us).set j y := by
        intro us
        induction us with
        | nil => intro _; rfl
        | cons u us ih =>
          intro hu
          simp only [List.mem_cons, not_or] at hu
          show (L2.wipe (σ.set j y) us).set u none = ((L2.wipe σ us).set u none).set j y
          rw [ih hu.2, set_swap _ _ _ _ _ hu.1]
      rw [this vs hj, List.set_set]
theorem wipe_wipe : ∀ (vs us : List Nat) (σ : L2.St), (∀ v ∈ us, v ∈ vs) → L2.wipe (L2.wipe σ us) vs = L2.wipe σ vs
  | vs, [], σ, _ => rfl
  | vs, u :: us, σ, h => by
    show L2.wipe ((L2.wipe σ us).set u none) vs = L2.wipe σ vs
    rw [wipe_set (h u List.mem_cons_self), wipe_wipe vs us σ fun v hv => h v (List.mem_cons_of_mem _ hv)]
theorem Slots.wipe {g : Gd} {M : Hp} {ρ : List Addr} {σ : L2.St} {Γ : List (Option D)} (h : Slots g M ρ σ Γ) : ∀ vs : List Nat, Slots g M ρ (L2.wipe σ vs) (wipeD Γ vs)
  | [] => h
  | v :: vs => by
    have k := Slots.wipe h vs
    refine ⟨by show ((L2.wipe σ vs).set v none).length = ((wipeD Γ vs).set v none).length; rw [List.length_set, List.length_set, k.len], fun i d e => ?_⟩
    have e' : ((wipeD Γ vs).set v none)[i]? = some (some d) := e
    by_cases hi : v = i
    · subst hi
      have hlt : v < (wipeD Γ vs).length := by
        have := (List.getElem?_eq_some_iff.mp e').1
        rw [List.length_set] at this
        exact this
      rw [List.getElem?_set_self hlt] at e'
      cases e'
    · rw [List.getElem?_set_ne hi] at e'
      obtain ⟨x, e1, r⟩ := k.at_ i d e'
      refine ⟨x, ?_, r⟩
      show ((L2.wipe σ vs).set v none)[i]? = some (some x)
      rw [List.getElem?_set_ne hi]
      exact e1
/-- the target's reading g, given x, leads from Γ to Γ2, and stores in the slots vs alone -/
def TgC (g : Gd) (vs : List Nat) (t : TG) (x : D) (Γ Γ2 : List (Option D)) : Prop := ∀ (M H : Hp) (ρ : List Addr) (σ : L2.St) (v : V) (R : L2.St → Hp → Prop), Same M H → Slots g M ρ σ Γ → Rp g M ρ v x →
  (∀ σ2, Slots g M ρ σ2 Γ2 → L2.wipe σ2 vs = L2.wipe σ vs → R σ2 H) → t v σ H R
theorem tc_name {g : Gd} {vs : List Nat} {j : Nat} {x : D} {Γ : List (Option D)} (hj : j ∈ vs) : TgC g vs (gName j) x Γ (Γ.set j (some x)) := fun M H ρ σ v R sm sl r k => k _ (sl.set r j) (wipe_set hj)
def gNames : List Nat → TGs
  | [] => gNil
  | j :: js => gCons (gName j) (gNames js)
def setD (Γ : List (Option D)) : List Nat → List D → List (Option D)
  | j :: js, d :: ds => setD (Γ.set j (some d)) js ds
  | _, _ => Γ
theorem gNames_go {g : Gd} {vs : List Nat} {M H : Hp} {ρ : List Addr} : ∀ {js : List Nat} {ds : List D} {us : List V} {Γ : List (Option D)} {σ : L2.St} {R : L2.St → Hp → Prop}, (∀ j ∈ js, j ∈ vs) → ds.length = js.length → Slots g M ρ σ Γ → Rps g M ρ us ds →
    (∀ σ2, Slots g M ρ σ2 (setD Γ js ds) → L2.wipe σ2 vs = L2.wipe σ vs → R σ2 H) → gNames js us σ H R
  | [], [], _, _, _, _, _, _, sl, r, k => by
    cases r
    exact ⟨rfl, k _ sl rfl⟩
  | [], _ :: _, _, _, _, _, _, h, _, _, _ => by cases h
  | _ :: _, [], _, _, _, _, _, h, _, _, _ => by cases h
  | j :: js, d :: ds, _, Γ, σ, R, hv, hl, sl, r, k => by
    cases r with
    | cons r1 r2 =>
      refine ⟨_, _, rfl, ?_⟩
      exact gNames_go (fun i hi => hv i (List.mem_cons_of_mem _ hi)) (Nat.succ.inj hl) (sl.set r1 j) r2 fun σ2 s2 e2 => k σ2 s2 (e2.trans (wipe_set (hv j List.mem_cons_self)))
theorem tc_tup {g : Gd} {vs : List Nat} {js : List Nat} {ds : List D} {Γ : List (Option D)} (hj : ∀ j ∈ js, j ∈ vs) (hl : ds.length = js.length) : TgC g vs (gTup g.K js.length (gNames js)) (.tup ds) Γ (setD Γ js ds) := fun M H ρ σ v R sm sl r k => by
  obtain ⟨a, us, e, q, rs⟩ := rp_tup r
  exact ⟨a, us, e, seqT sm q, by rw [rs.length]; exact hl, gNames_go hj hl sl rs k⟩

/-! ### list comprehensions -/
/-- a private list, outside of the store -/
structure Priv (g : Gd) (S : List Cell) (ρ : List Addr) (M H : Hp) (p : Addr) : Prop where
  out : M p = none
  dead : ¬ Live S ρ p
theorem Ok.priv {g : Gd} {S : List Cell} {ρ : List Addr} {M H : Hp} {p : Addr} {o : HO} (k : Ok g S ρ M H) (pr : Priv g S ρ M H p) : Ok g S ρ M (upd H p o) := by
  refine ⟨k.len, fun a u e => ?_, fun l c a e r => ?_, k.out, k.inj⟩
  · have : a ≠ p := fun q => by
      rw [q, pr.out] at e
      cases e
    rw [upd_ne this]
    exact k.sub a u e
  · by_cases hd : c = .dead
    · subst hd; exact .dead
    · have : a ≠ p := fun q => pr.dead ⟨l, c, e, hd, by rw [← q]; exact r⟩
      exact (k.at_ l c a e r).mono (fun _ _ h => h) (fun _ _ h => h) fun u q => by
        rw [upd_ne this]
        exact q
theorem Priv.new {g : Gd} {S : List Cell} {ρ : List Addr} {M H H' : Hp} {p : Addr} (k : Ok g S ρ M H) (hp : H p = none) : Priv g S ρ M H' p := by
  refine ⟨?_, fun h => ?_⟩
  · cases q : M p with
    | none => rfl
    | some u =>
      have := k.sub p u q
      rw [hp] at this
      cases this
  · obtain ⟨o, q⟩ := k.live h
    rw [hp] at q
    cases q
/-- the run from H1, seen without what stands at p -/
structure To' (p : Addr) (S : List Cell) (ρ : List Addr) (M H : Hp) (S' : List Cell) (ρ' : List Addr) (M' H' : Hp) : Prop where
  pre : ∀ (l : Nat) (a : Addr), ρ[l]? = some a → ρ'[l]? = some a
  pm : Same M M'
  fr : ∀ a o, H a = some o → ¬ Live S ρ a → H' a = some o
  nw : ∀ a, M' a ≠ none → M a ≠ none ∨ H a = none ∨ Live S ρ a
  lv : ∀ a, Live S' ρ' a → H a = none ∨ Live S ρ a
  mp : M' p = none
  dp : ¬ Live S' ρ' p
section
variable {g : Gd} {S S1 S2 : List Cell} {ρ ρ1 ρ2 : List Addr} {M M1 M2 H H1 H2 : Hp} {p : Addr}
theorem To'.start {o : HO} (k : Ok g S ρ M H) (hp : H p = none) : To' p S ρ M H S ρ M (upd H p o) :=
  ⟨fun _ _ h => h, fun _ _ h => h, fun a u e _ => by rw [upd_ne (ne_of_none e hp)]; exact e, fun a h => .inl h, fun a h => .inr h, (Priv.new (H' := H) k hp).out, (Priv.new (H' := H) k hp).dead⟩
theorem To'.step (hp : H p = none) (a : To' p S ρ M H S1 ρ1 M1 H1) (hp1 : ∃ o, H1 p = some o) (b : To S1 ρ1 M1 H1 S2 ρ2 M2 H2) : To' p S ρ M H S2 ρ2 M2 H2 ∧ H2 p = H1 p := by
  obtain ⟨o1, e1⟩ := hp1
  have ep : H2 p = some o1 := b.fr p o1 e1 a.dp
  refine ⟨⟨fun l x h => b.pre l x (a.pre l x h), fun x o h => b.pm x o (a.pm x o h), fun x o h n => b.fr x o (a.fr x o h n) fun q => ?_, fun x h => ?_, fun x h => ?_, ?_, fun h => ?_⟩, by rw [ep, e1]⟩
  · rcases a.lv x q with z | z
    · rw [h] at z; cases z
    · exact n z
  · rcases b.nw x h with z | z | z
    · exact a.nw x z
    · cases q : H x with
      | none => exact .inr (.inl rfl)
      | some o =>
        refine .inr (.inr (Classical.byContradiction fun n => ?_))
        rw [a.fr x o q n] at z
        cases z
    · rcases a.lv x z with y | y
      · exact .inr (.inl y)
      · exact .inr (.inr y)
  · rcases b.lv x h with z | z
    · cases q : H x with
      | none => exact .inl rfl
      | some o =>
        refine .inr (Classical.byContradiction fun n => ?_)
        rw [a.fr x o q n] at z
        cases z
    · exact a.lv x z
  · cases q : M2 p with
    | none => rfl
    | some u =>
      rcases b.nw p (by rw [q]; intro z; cases z) with z | z | z
      · exact absurd a.mp z
      · rw [e1] at z; cases z
      · exact absurd z a.dp
  · rcases b.lv p h with z | z
    · rw [e1] at z; cases z
    · exact a.dp z
/-- what stands at p is written -/
theorem To'.put {o : HO} (hp : H p = none) (a : To' p S ρ M H S1 ρ1 M1 H1) : To' p S ρ M H S1 ρ1 M1 (upd H1 p o) :=
  ⟨a.pre, a.pm, fun x u e n => by rw [upd_ne (ne_of_none e hp)]; exact a.fr x u e n, a.nw, a.lv, a.mp, a.dp⟩
theorem To'.ok {o : HO} (a : To' p S ρ M H S1 ρ1 M1 H1) (k : Ok g S1 ρ1 M1 H1) : Ok g S1 ρ1 M1 (upd H1 p o) := k.priv ⟨a.mp, a.dp⟩
/-- at the end it stands for good -/
theorem To'.keep {o : HO} (hp : H p = none) (a : To' p S ρ M H S1 ρ1 M1 H1) (k : Ok g S1 ρ1 M1 H1) (e1 : H1 p = some o) : To S ρ M H S1 ρ1 (upd M1 p o) H1 ∧ Ok g S1 ρ1 (upd M1 p o) H1 ∧ Same M1 (upd M1 p o) := by
  have pm : Same M1 (upd M1 p o) := fun x u e => by
    have : x ≠ p := fun q => by
      rw [q, a.mp] at e
      cases e
    rw [upd_ne this]
    exact e
  refine ⟨⟨a.pre, fun x u e => pm x u (a.pm x u e), a.fr, fun x h => ?_, a.lv⟩, ⟨k.len, fun x u e => ?_, fun l c x e r => ?_, fun x h => ?_, k.inj⟩, pm⟩
  · by_cases q : x = p
    · subst q
      exact .inr (.inl hp)
    · rw [upd_ne q] at h
      exact a.nw x h
  · by_cases q : x = p
    · subst q
      rw [upd_same] at e
      rw [e1]
      exact e
    · rw [upd_ne q] at e
      exact k.sub x u e
  · exact (k.at_ l c x e r).mono pm (fun _ _ h => h) fun _ h => h
  · have : x ≠ p := fun q => a.dp (by rw [← q]; exact h)
    rw [upd_ne this]
    exact k.out x h
/-- at the end it is a cell -/
theorem To'.cell {c : Cell} (hp : H p = none) (a : To' p S ρ M H S1 ρ1 M1 H1) (k : Ok g S1 ρ1 M1 H1) (hc : CellAt g M1 H1 (ρ1 ++ [p]) p c) : To S ρ M H (S1 ++ [c]) (ρ1 ++ [p]) M1 H1 ∧ Ok g (S1 ++ [c]) (ρ1 ++ [p]) M1 H1 := by
  have pre : ∀ (l : Nat) (a : Addr), ρ1[l]? = some a → (ρ1 ++ [p])[l]? = some a := fun l a h => by
    rw [List.getElem?_append_left (List.getElem?_eq_some_iff.mp h).1]
    exact h
  have spl : ∀ (l : Nat) (x : Cell) (b : Addr), (S1 ++ [c])[l]? = some x → (ρ1 ++ [p])[l]? = some b → (S1[l]? = some x ∧ ρ1[l]? = some b) ∨ (l = S1.length ∧ x = c ∧ b = p) := fun l x b e r => by
    by_cases hl : l < S1.length
    · rw [List.getElem?_append_left hl] at e
      rw [List.getElem?_append_left (by rw [k.len]; exact hl)] at r
      exact .inl ⟨e, r⟩
    · have hl2 : l = S1.length := by
        have := (List.getElem?_eq_some_iff.mp e).1
        rw [List.length_append] at this
        simp only [List.length_singleton] at this
        omega
      subst hl2
      rw [List.getElem?_append_right (Nat.le_refl _)] at e
      rw [← k.len, List.getElem?_append_right (Nat.le_refl _)] at r
      simp only [Nat.sub_self, List.getElem?_cons_zero, Option.some.injEq] at e r
      exact .inr ⟨rfl, e.symm, r.symm⟩
  refine ⟨⟨fun l x h => pre l x (a.pre l x h), a.pm, a.fr, a.nw, fun x h => ?_⟩, ⟨by rw [List.length_append, List.length_append, k.len] <;> rfl, k.sub, fun l x b e r => ?_, fun x h => ?_, fun l l' x x' b e e' n n' r r' => ?_⟩⟩
  · obtain ⟨l, y, e, n, r⟩ := h
    rcases spl l y x e r with ⟨e2, r2⟩ | ⟨_, _, q⟩
    · exact a.lv x ⟨l, y, e2, n, r2⟩
    · rw [q]; exact .inl hp
  · rcases spl l x b e r with ⟨e2, r2⟩ | ⟨_, q1, q2⟩
    · exact (k.at_ l x b e2 r2).mono (fun _ _ h => h) pre fun _ h => h
    · rw [q1, q2]; exact hc
  · obtain ⟨l, y, e, n, r⟩ := h
    rcases spl l y x e r with ⟨e2, r2⟩ | ⟨_, _, q⟩
    · exact k.out x ⟨l, y, e2, n, r2⟩
    · rw [q]; exact a.mp
  · rcases spl l x b e r with ⟨e2, r2⟩ | ⟨q, _, qa⟩
    · rcases spl l' x' b e' r' with ⟨e3, r3⟩ | ⟨_, _, qa⟩
      · exact k.inj l l' x x' b e2 e3 n n' r2 r3
      · exact absurd ⟨l, x, e2, n, by rw [← qa]; exact r2⟩ a.dp
    · rcases spl l' x' b e' r' with ⟨e3, r3⟩ | ⟨q3, _, _⟩
      · exact absurd ⟨l', x', e3, n', by rw [← qa]; exact r3⟩ a.dp
      · rw [q, q3]
end
end Ab
set_option Elab.async false
set_option linter.all false
set_option maxRecDepth 100000
set_option maxHeartbeats 4000000
/-! Comprehensions. -/
namespace Ab
open PySem PySem.Spec PyProof.Rows L2
theorem To'.up {p : Addr} {S S1 : List Cell} {ρ ρ1 : List Addr} {M M1 H H1 : Hp} (a : To' p S ρ M H S1 ρ1 M1 H1) : Up ρ M ρ1 M1 := ⟨a.pre, a.pm⟩
theorem To'.to {p : Addr} {S S1 : List Cell} {ρ ρ1 : List Addr} {M M1 H H1 : Hp} (a : To' p S ρ M H S1 ρ1 M1 H1) : To S ρ M H S1 ρ1 M1 H1 := ⟨a.pre, a.pm, a.fr, a.nw, a.lv⟩

/-! tests of a comprehension: none or one -/
def ttOf (X : Cx) (scope : Scope) : List Expr → TT
  | [] => tYes
  | [c] => fun σ H Q => ∀ (s : Shared) (H0 : Hp) (C : Addr) (cl : List (Str × Addr)) (fp : List Addr), sT (X.blk s H0 scope (compEnvC scope cl C X.env) fp) c σ H Q
  | _ => fun _ _ _ => False
def teOf (X : Cx) (scope : Scope) (e : Expr) : TE := fun σ H Q => ∀ (s : Shared) (H0 : Hp) (C : Addr) (cl : List (Str × Addr)) (fp : List Addr), sE (X.blk s H0 scope (compEnvC scope cl C X.env) fp) e σ H Q
theorem pts_of {X : Cx} {scope : Scope} : ∀ {ifs : List Expr}, ifs.length ≤ 1 → ∀ (s : Shared) (H0 : Hp) (C : Addr) (cl : List (Str × Addr)) (fp : List Addr), PTs (X.blk s H0 scope (compEnvC scope cl C X.env) fp) ifs (ttOf X scope ifs)
  | [], _, _, _, _, _, _ => pts_nil
  | [c], _, s, H0, C, cl, fp => pts_one ⟨fun pins s' σ H Q I h => h s H0 C cl fp pins s' I⟩
  | _ :: _ :: _, h, _, _, _, _, _ => by simp at h
theorem pe_of {X : Cx} {scope : Scope} {e : Expr} : ∀ (s : Shared) (H0 : Hp) (C : Addr) (cl : List (Str × Addr)) (fp : List Addr), PE (X.blk s H0 scope (compEnvC scope cl C X.env) fp) e (teOf X scope e) := fun s H0 C cl fp => ⟨fun pins s' σ H Q I h => h s H0 C cl fp pins s' I⟩
/-- in the block of a comprehension -/
def WTb (X : Cx) (scope : Scope) (ifs : List Expr) (Γ : List (Option D)) (S : List Cell) (Φ : Bool → List Cell → Prop) : Prop := match ifs with
  | [] => Φ true S
  | [c] => ∀ (s : Shared) (H0 : Hp) (C : Addr) (cl : List (Str × Addr)) (fp : List Addr), WT (X.blk s H0 scope (compEnvC scope cl C X.env) fp) c Γ S Φ noX
  | _ => False
def WEb (X : Cx) (scope : Scope) (e : Expr) (Γ : List (Option D)) (S : List Cell) (Φ : D → List Cell → Prop) : Prop :=
  ∀ (s : Shared) (H0 : Hp) (C : Addr) (cl : List (Str × Addr)) (fp : List Addr), WE (X.blk s H0 scope (compEnvC scope cl C X.env) fp) e Γ S Φ noX
theorem kx_no {g : Gd} {S : List Cell} {ρ : List Addr} {M H : Hp} {W : WX} : Kx g S ρ M H noX W := fun _ _ _ _ _ _ _ _ h => h.elim
theorem wtb_run {X : Cx} {scope : Scope} {ifs : List Expr} {Γ : List (Option D)} {S : List Cell} {Φ : Bool → List Cell → Prop} (h : WTb X scope ifs Γ S Φ) {σ : L2.St} {ρ : List Addr} {M H : Hp} {Q : Bool → Hp → Prop} (ok : Ok (gd X) S ρ M H) (sl : Slots (gd X) M ρ σ Γ) (k : Kb (gd X) S ρ M H Φ Q) : ttOf X scope ifs σ H Q := by
  cases ifs with
  | nil => exact k true S ρ M H h .refl ok
  | cons c r =>
    cases r with
    | nil => exact fun s H0 C cl fp => h s H0 C cl fp σ ρ M H Q (fun _ _ _ _ => False) ok sl k kx_no takes0
    | cons _ _ => exact (show False from h).elim
theorem web_run {X : Cx} {scope : Scope} {e : Expr} {Γ : List (Option D)} {S : List Cell} {Φ : D → List Cell → Prop} (h : WEb X scope e Γ S Φ) {σ : L2.St} {ρ : List Addr} {M H : Hp} {Q : VK} (ok : Ok (gd X) S ρ M H) (sl : Slots (gd X) M ρ σ Γ) (k : Kv (gd X) S ρ M H Φ Q) : teOf X scope e σ H Q :=
  fun s H0 C cl fp => h s H0 C cl fp σ ρ M H Q (fun _ _ _ _ => False) ok sl k kx_no takes0

section
variable {X : Cx} {Γ : List (Option D)} {S : List Cell} {Ξ : XP} {elt tg iter : Expr} {ifs : List Expr} {scope : Scope} {own : List (Str × Nat)} {pos : Pos} {g : TG}
/-- what a list comprehension wants, behind its source -/
def LcI (X : Cx) (scope : Scope) (vs : List Nat) (g : TG) (ifs : List Expr) (elt : Expr) (Γ : List (Option D)) (ds : List D) (G : List Cell → Prop) (S1 : List Cell) (Φ : List D → List Cell → Prop) : Prop :=
  ∃ I : Nat → List D → List Cell → Prop, ds.length ≤ 1000000 ∧ I 0 [] S1 ∧ (∀ i acc S', i ≤ ds.length → I i acc S' → G S' ∧ acc.length ≤ i) ∧
    (∀ i x acc S', ds[i]? = some x → I i acc S' → ∃ Γ2, TgC (gd X) vs g x (wipeD Γ vs) Γ2 ∧ WTb X scope ifs Γ2 S' fun b S2 => if b = true then WEb X scope elt Γ2 S2 fun y S3 => I (i + 1) (acc ++ [y]) S3 else I (i + 1) acc S2) ∧
    (∀ acc S', I ds.length acc S' → Φ acc S')
theorem lc_run {vs : List Nat} {J : It} {ds : List D} {G : List Cell → Prop} {S1 : List Cell} {ρ1 : List Addr} {M1 H1 : Hp} {σ : L2.St} {Φ : List D → List Cell → Prop} {Qd : V → Hp → Prop} (ok1 : Ok (gd X) S1 ρ1 M1 H1) (sl : Slots (gd X) M1 ρ1 σ Γ) (src : SrcOk (gd X) J ds G S1 ρ1 M1 H1) (h : LcI X scope vs g ifs elt Γ ds G S1 Φ)
    (p : Addr) (hp : H1 p = none) (fin : ∀ acc vacc S' ρ' M' H', Φ acc S' → To' p S1 ρ1 M1 H1 S' ρ' M' H' → Ok (gd X) S' ρ' M' H' → H' p = some (.lst vacc) → Rps (gd X) M' ρ' vacc acc → Qd (.ref p) H') :
    ∃ W : Nat → Nat → Hp → Prop, (∃ m, W 0 m (upd H1 p (.lst []))) ∧ ∀ i m H, W i m H →
      (J.stop i H ∧ Qd (.ref p) H) ∨ (J.go i H ∧ ∃ Nx : Hp → Prop, (∀ H', Nx H' → ∃ m', m' < m ∧ W (i + 1) m' H') ∧ ∀ x H', J.yld i H x H' → g x (L2.wipe σ vs) H' fun σ2 H2 => L2.wipe σ2 vs = L2.wipe σ vs ∧ ttOf X scope ifs σ2 H2 fun b H3 =>
        if b = true then teOf X scope elt σ2 H3 fun y H4 => ∃ acc, H4 p = some (.lst acc) ∧ acc.length < sizeLine ∧ Nx (upd H4 p (.lst (acc ++ [y]))) else Nx H3) := by
  obtain ⟨I, hz, h0, hst, hi, hd⟩ := h
  refine ⟨fun i m H' => m = ds.length - i ∧ i ≤ ds.length ∧ ∃ acc vacc S' ρ' M', I i acc S' ∧ To' p S1 ρ1 M1 H1 S' ρ' M' H' ∧ Ok (gd X) S' ρ' M' H' ∧ H' p = some (.lst vacc) ∧ Rps (gd X) M' ρ' vacc acc,
    ⟨ds.length, rfl, Nat.zero_le _, [], [], S1, ρ1, M1, h0, To'.start ok1 hp, ok1.priv (Priv.new (H' := H1) ok1 hp), upd_same, .nil⟩, ?_⟩
  rintro i m H' ⟨rfl, hle, acc, vacc, S', ρ', M', hI, t', ok', ep, ra⟩
  obtain ⟨hG, hacc⟩ := hst i acc S' hle hI
  by_cases hlt : i < ds.length
  · refine .inr ⟨src.go i S' ρ' M' H' t'.up ok' hG hlt, fun H2 => i + 1 ≤ ds.length ∧ ∃ acc vacc S' ρ' M', I (i + 1) acc S' ∧ To' p S1 ρ1 M1 H1 S' ρ' M' H2 ∧ Ok (gd X) S' ρ' M' H2 ∧ H2 p = some (.lst vacc) ∧ Rps (gd X) M' ρ' vacc acc, fun H2 ⟨hl2, q⟩ => ⟨ds.length - (i + 1), by omega, rfl, hl2, q⟩, fun x H2 y => ?_⟩
    obtain ⟨d, M2, ed, ty, oky, rx⟩ := src.yld i S' ρ' M' H' x H2 t'.up ok' hG hlt y
    obtain ⟨t2, e2⟩ := t'.step hp ⟨_, ep⟩ ty
    obtain ⟨Γ2, hg, ht⟩ := hi i d acc S' ed hI
    refine hg M2 H2 ρ' (L2.wipe σ vs) x _ oky.sub (((t2.to).slots sl).wipe vs) rx fun σ2 sl2 ew => ⟨ew.trans (wipe_wipe vs vs σ fun _ h => h), ?_⟩
    refine wtb_run ht oky sl2 fun b S3 ρ3 M3 H3 h3 t3 ok3 => ?_
    obtain ⟨t4, e4⟩ := t2.step hp ⟨_, e2.trans ep⟩ t3
    have e3 : H3 p = some (.lst vacc) := by rw [e4, e2, ep]
    cases b with
    | false =>
      show i + 1 ≤ ds.length ∧ _
      exact ⟨hlt, acc, vacc, S3, ρ3, M3, h3, t4, ok3, e3, t3.rps (ty.rps ra)⟩
    | true =>
      refine web_run (show WEb X scope elt Γ2 S3 _ from h3) ok3 (t3.slots sl2) fun y S4 ρ4 M4 H4 vy h5 t5 ok5 ry => ?_
      obtain ⟨t6, e6⟩ := t4.step hp ⟨_, e3⟩ t5
      have e5 : vy p = some (.lst vacc) := by rw [e6, e3]
      have rv := t5.rps (t3.rps (ty.rps ra))
      refine ⟨vacc, e5, by rw [rv.length]; exact Nat.lt_of_le_of_lt hacc (Nat.lt_of_lt_of_le hlt (Nat.le_trans hz (by decide))), hlt, acc ++ [y], vacc ++ [ρ4], S4, M4, H4, h5, t6.put hp, t6.ok ok5, upd_same, rv.append (.cons ry .nil)⟩
  · have e : i = ds.length := by omega
    subst e
    exact .inl ⟨src.stop S' ρ' M' H' t'.up ok' hG, fin acc vacc S' ρ' M' H' (hd acc S' hI) t' ok' ep ra⟩
variable (hc : X.calm = true) (hN : X.N.Nodup) (ok : BlkOk X.N X.env.scope scope own)
/-- .. a list that stands for good -/
theorem we_lc {Φ : D → List Cell → Prop} (hc : X.calm = true) (hN : X.N.Nodup) (ok : BlkOk X.N X.env.scope scope own) (hg : ∀ (s : Shared) (H : Hp) (C : Addr) (cl : List (Str × Addr)) (fp : List Addr), PG (X.blk s H scope (compEnvC scope cl C X.env) fp) tg g)
    (h : WI X tg iter Γ S (fun ds G S1 => LcI X scope (own.map fun q => q.2) g ifs elt Γ ds G S1 fun acc S' => Φ (.lst acc) S') Ξ) (hif : ifs.length ≤ 1 := by decide) (hs : ∀ x, foldedSetIterable iter X.env x = pure x := by intro _; rfl) : WE X (.ListComp elt [⟨tg, iter, ifs, 0⟩] scope pos) Γ S Φ Ξ :=
  fun σ ρ M H Q W okS sl kv kx tk => by
    obtain ⟨wi, hwi, hr⟩ := h
    refine PE.s (pe_lc hc hN hwi ok hg (pts_of hif) pe_of hs) (hr σ ρ M H _ W okS sl (fun J ds G S1 ρ1 M1 H1 hL t1 ok1 src => ?_) kx tk)
    intro p hp
    refine lc_run ok1 (t1.slots sl) src hL p hp fun acc vacc S' ρ' M' H' hΦ t' ok' ep ra => ?_
    obtain ⟨t2, ok2, sm⟩ := t'.keep hp ok' ep
    exact kv _ S' _ ρ' _ H' hΦ (t1.trans t2) ok2 (.lst (SqL.of upd_same) (Rps.mono sm (fun _ _ h => h) acc vacc ra))
/-- .. a cell -/
theorem we_lcC {Φ : D → List Cell → Prop} (hc : X.calm = true) (hN : X.N.Nodup) (ok : BlkOk X.N X.env.scope scope own) (hg : ∀ (s : Shared) (H : Hp) (C : Addr) (cl : List (Str × Addr)) (fp : List Addr), PG (X.blk s H scope (compEnvC scope cl C X.env) fp) tg g)
    (h : WI X tg iter Γ S (fun ds G S1 => LcI X scope (own.map fun q => q.2) g ifs elt Γ ds G S1 fun acc S' => Φ (.ptr S'.length) (S' ++ [.lst acc])) Ξ) (hif : ifs.length ≤ 1 := by decide) (hs : ∀ x, foldedSetIterable iter X.env x = pure x := by intro _; rfl) : WE X (.ListComp elt [⟨tg, iter, ifs, 0⟩] scope pos) Γ S Φ Ξ :=
  fun σ ρ M H Q W okS sl kv kx tk => by
    obtain ⟨wi, hwi, hr⟩ := h
    refine PE.s (pe_lc hc hN hwi ok hg (pts_of hif) pe_of hs) (hr σ ρ M H _ W okS sl (fun J ds G S1 ρ1 M1 H1 hL t1 ok1 src => ?_) kx tk)
    intro p hp
    refine lc_run ok1 (t1.slots sl) src hL p hp fun acc vacc S' ρ' M' H' hΦ t' ok' ep ra => ?_
    have pre : ∀ (l : Nat) (a : Addr), ρ'[l]? = some a → (ρ' ++ [p])[l]? = some a := fun l a h => by
      rw [List.getElem?_append_left (List.getElem?_eq_some_iff.mp h).1]
      exact h
    obtain ⟨t2, ok2⟩ := t'.cell hp ok' (c := .lst acc) (.lst ep (Rps.mono (fun _ _ h => h) pre acc vacc ra))
    exact kv _ _ _ _ _ H' hΦ (t1.trans t2) ok2 (.ptr (by rw [← ok'.len]; simp))
/-- y = [..], on one line -/
theorem ws_lc {P : Post} {i : Nat} {y : Str} {py spos : Pos} (hc : X.calm = true) (hN : X.N.Nodup) (ok : BlkOk X.N X.env.scope scope own) (hg : ∀ (s : Shared) (H : Hp) (C : Addr) (cl : List (Str × Addr)) (fp : List Addr), PG (X.blk s H scope (compEnvC scope cl C X.env) fp) tg g)
    (h : WI X tg iter Γ S (fun ds G S1 => LcI X scope (own.map fun q => q.2) g ifs elt Γ ds G S1 fun acc S' => P.nx (Γ.set i (some (.lst acc))) S') P.ex) (hy : X.N[i]? = some y := by rfl) (hyl : X.env.scope.names.lookup y = some .local := by rfl)
    (hsw : swapsWith (.ListComp elt [⟨tg, iter, ifs, 0⟩] scope pos) (some (.Name y py)) spos.line X.env = pure true := by exact sw_true rfl rfl rfl (by decide +kernel)) (hif : ifs.length ≤ 1 := by decide) (hs : ∀ x, foldedSetIterable iter X.env x = pure x := by intro _; rfl) : WS X (.Assign [.Name y py] (.ListComp elt [⟨tg, iter, ifs, 0⟩] scope pos) spos) Γ S P :=
  fun σ ρ M H E okS sl sat => by
    obtain ⟨W, kx, tk⟩ := sat.ex
    obtain ⟨wi, hwi, hr⟩ := h
    refine PS.s (ps_setLc hc hN hy hyl hsw hwi ok hg (pts_of hif) pe_of hs) (hr σ ρ M H _ W okS sl (fun J ds G S1 ρ1 M1 H1 hL t1 ok1 src => ?_) kx tk)
    intro p hp
    refine lc_run (Qd := fun x H1 => gName i x σ H1 E.nx) ok1 (t1.slots sl) src hL p hp fun acc vacc S' ρ' M' H' hΦ t' ok' ep ra => ?_
    obtain ⟨t2, ok2, sm⟩ := t'.keep hp ok' ep
    exact sat.nx _ S' _ ρ' _ H' hΦ (t1.trans t2) ok2 (((t1.trans t2).slots sl).set (.lst (SqL.of upd_same) (Rps.mono sm (fun _ _ h => h) acc vacc ra)) i)
end
end Ab
set_option Elab.async false
set_option linter.all false
set_option maxRecDepth 100000
set_option maxHeartbeats 4000000
/-! Dicts with numbers and texts as keys; methods of lists; a def's promise by its body. -/
namespace Ab
open PySem PySem.Spec PyProof.Rows L2

/-! ### tables -/
section
variable {κ α : Type} [DecidableEq κ]
def getA (kvs : List (κ × α)) (k : κ) : Option α := (kvs.find? fun kv => decide (kv.1 = k)).map (·.2)
def putA (kvs : List (κ × α)) (k : κ) (v : α) : List (κ × α) :=
  if (kvs.any fun kv => decide (kv.1 = k)) = true then kvs.map (fun kv => if kv.1 = k then (kv.1, v) else kv) else kvs ++ [(k, v)]
def delA (kvs : List (κ × α)) (k : κ) : List (κ × α) := kvs.filter fun kv => decide (kv.1 ≠ k)
end
/-- a dict by its table -/
abbrev dK (kvs : List (Key × D)) : D := .dic false (kvs.map fun p => keyD p.1) (kvs.map fun p => p.2)
abbrev cK (kvs : List (Key × D)) : Cell := .dic false (kvs.map fun p => keyD p.1) (kvs.map fun p => p.2)
/-- the two tables go together -/
structure RK (g : Gd) (M : Hp) (ρ : List Addr) (vs : List (Key × V)) (ds : List (Key × D)) : Prop where
  ks : vs.map (fun p => p.1) = ds.map (fun p => p.1)
  vs : Rps g M ρ (vs.map fun p => p.2) (ds.map fun p => p.2)
section
variable {g : Gd} {M M' H : Hp} {ρ ρ' : List Addr}
theorem RK.nil : RK g M ρ [] [] := ⟨rfl, .nil⟩
theorem RK.mono {vs : List (Key × V)} {ds : List (Key × D)} (h : RK g M ρ vs ds) (hm : Same M M') (hr : ∀ (l : Nat) (a : Addr), ρ[l]? = some a → ρ'[l]? = some a) : RK g M' ρ' vs ds := ⟨h.ks, Rps.mono hm hr _ _ h.vs⟩
theorem RK.cons_inv {q : Key × V} {vs : List (Key × V)} {e : Key × D} {ds : List (Key × D)} (h : RK g M ρ (q :: vs) (e :: ds)) : q.1 = e.1 ∧ Rp g M ρ q.2 e.2 ∧ RK g M ρ vs ds := by
  obtain ⟨h1, h2⟩ := h
  simp only [List.map_cons, List.cons.injEq] at h1
  cases h2 with
  | cons r t => exact ⟨h1.1, r, h1.2, t⟩
theorem RK.cons {q : Key × V} {vs : List (Key × V)} {e : Key × D} {ds : List (Key × D)} (h1 : q.1 = e.1) (h2 : Rp g M ρ q.2 e.2) (h3 : RK g M ρ vs ds) : RK g M ρ (q :: vs) (e :: ds) :=
  ⟨by simp only [List.map_cons, h1, h3.ks], .cons h2 h3.vs⟩
theorem RK.length {vs : List (Key × V)} {ds : List (Key × D)} (h : RK g M ρ vs ds) : vs.length = ds.length := by
  have := congrArg List.length h.ks
  simpa using this
theorem RK.ind {P : List (Key × V) → List (Key × D) → Prop} (h0 : P [] []) (hc : ∀ q vs e ds, q.1 = e.1 → Rp g M ρ q.2 e.2 → RK g M ρ vs ds → P vs ds → P (q :: vs) (e :: ds)) : ∀ {vs : List (Key × V)} {ds : List (Key × D)}, RK g M ρ vs ds → P vs ds
  | [], [], _ => h0
  | [], _ :: _, h => by have := h.length; simp at this
  | _ :: _, [], h => by have := h.length; simp at this
  | q :: vs, e :: ds, h => let ⟨a, b, c⟩ := h.cons_inv; hc q vs e ds a b c (RK.ind h0 hc c)
theorem RK.any {vs : List (Key × V)} {ds : List (Key × D)} (h : RK g M ρ vs ds) (k : Key) : (vs.any fun kv => decide (kv.1 = k)) = ds.any fun kv => decide (kv.1 = k) :=
  RK.ind (P := fun vs ds => (vs.any fun kv => decide (kv.1 = k)) = ds.any fun kv => decide (kv.1 = k)) rfl (fun q vs e ds a _ _ ih => by rw [List.any_cons, List.any_cons, ih, a]) h
/-- the entry of a key on both sides -/
theorem RK.get {vs : List (Key × V)} {ds : List (Key × D)} (h : RK g M ρ vs ds) (k : Key) : (valV vs k = none ∧ getA ds k = none) ∨ ∃ v d, valV vs k = some v ∧ getA ds k = some d ∧ Rp g M ρ v d :=
  RK.ind (P := fun vs ds => (valV vs k = none ∧ getA ds k = none) ∨ ∃ v d, valV vs k = some v ∧ getA ds k = some d ∧ Rp g M ρ v d) (.inl ⟨rfl, rfl⟩) (fun q vs e ds a r _ ih => by
    unfold valV getA at ih ⊢
    by_cases hk : q.1 = k
    · have hk2 : e.1 = k := a ▸ hk
      simp only [List.find?_cons, hk, hk2, decide_true, Option.map_some]
      exact .inr ⟨q.2, e.2, rfl, rfl, r⟩
    · have hk2 : ¬ e.1 = k := a ▸ hk
      simp only [List.find?_cons, hk, hk2, decide_false]
      exact ih) h
theorem RK.append {vs us : List (Key × V)} {ds es : List (Key × D)} (h : RK g M ρ vs ds) (h' : RK g M ρ us es) : RK g M ρ (vs ++ us) (ds ++ es) :=
  ⟨by rw [List.map_append, List.map_append, h.ks, h'.ks], by rw [List.map_append, List.map_append]; exact h.vs.append h'.vs⟩
theorem RK.repl {vs : List (Key × V)} {ds : List (Key × D)} (h : RK g M ρ vs ds) (k : Key) {v : V} {d : D} (r : Rp g M ρ v d) : RK g M ρ (vs.map fun kv => if kv.1 = k then (kv.1, v) else kv) (ds.map fun kv => if kv.1 = k then (kv.1, d) else kv) :=
  RK.ind (P := fun vs ds => RK g M ρ (vs.map fun kv => if kv.1 = k then (kv.1, v) else kv) (ds.map fun kv => if kv.1 = k then (kv.1, d) else kv)) .nil (fun q vs e ds a r1 _ ih => by
    rw [List.map_cons, List.map_cons]
    by_cases hk : q.1 = k
    · have hk2 : e.1 = k := a ▸ hk
      rw [if_pos hk, if_pos hk2]
      exact .cons a r ih
    · have hk2 : ¬ e.1 = k := a ▸ hk
      rw [if_neg hk, if_neg hk2]
      exact .cons a r1 ih) h
theorem RK.put {vs : List (Key × V)} {ds : List (Key × D)} (h : RK g M ρ vs ds) (k : Key) {v : V} {d : D} (r : Rp g M ρ v d) : RK g M ρ (putK vs k v) (putA ds k d) := by
  unfold putK putA
  rw [h.any k]
  by_cases c : (ds.any fun kv => decide (kv.1 = k)) = true
  · rw [if_pos c, if_pos c]
    exact h.repl k r
  · rw [if_neg c, if_neg c]
    exact h.append (.cons rfl r .nil)
theorem RK.del {vs : List (Key × V)} {ds : List (Key × D)} (h : RK g M ρ vs ds) (k : Key) : RK g M ρ (dropK vs k) (delA ds k) :=
  RK.ind (P := fun vs ds => RK g M ρ (dropK vs k) (delA ds k)) .nil (fun q vs e ds a r _ ih => by
    unfold dropK delA at ih ⊢
    rw [List.filter_cons, List.filter_cons]
    by_cases hk : q.1 = k
    · have hk2 : e.1 = k := a ▸ hk
      rw [if_neg (by simp [hk]), if_neg (by simp [hk2])]
      exact ih
    · have hk2 : ¬ e.1 = k := a ▸ hk
      rw [if_pos (by simp [hk]), if_pos (by simp [hk2])]
      exact .cons a r ih) h
theorem keys_rp : ∀ ks : List Key, Rps g M ρ (ks.map kV) (ks.map keyD)
  | [] => .nil
  | .inl i :: ks => .cons (.int i) (keys_rp ks)
  | .inr s :: ks => .cons (.str s) (keys_rp ks)
theorem keyD_inj {a b : Key} (h : keyD a = keyD b) : a = b := by
  cases a <;> cases b <;> simp only [keyD, D.int.injEq, D.str.injEq, reduceCtorEq] at h <;> rw [h]
theorem key_of_rp {v : V} {k : Key} (h : Rp g M ρ v (keyD k)) : v = kV k := by
  cases k with
  | inl i => exact rp_int h
  | inr s => exact rp_str h
theorem keysD_inj : ∀ {a b : List Key}, a.map keyD = b.map keyD → a = b
  | [], [], _ => rfl
  | [], _ :: _, h => by cases h
  | _ :: _, [], h => by cases h
  | a :: as, b :: bs, h => by
    simp only [List.map_cons, List.cons.injEq] at h
    rw [keyD_inj h.1, keysD_inj h.2]
/-- a dict that is read by numbers and texts -/
def DicK (S : List Cell) : D → List (Key × D) → Prop
  | .dic n ks vs, kvs => D.dic n ks vs = dK kvs
  | .ptr l, kvs => S[l]? = some (cK kvs)
  | _, _ => False
theorem DO.inv {a : Addr} {ho : HO} {kv vv : List V} {kvs : List (Key × D)} (o : DO g a false ho kv (kvs.map fun p => keyD p.1) vv) (r : Rps g M ρ vv (kvs.map fun p => p.2)) : ∃ kvV, ho = .dK kvV ∧ RK g M ρ kvV kvs := by
  generalize e : (kvs.map fun p => keyD p.1) = ks at o
  cases o with
  | k kvV =>
    refine ⟨kvV, rfl, ?_, r⟩
    have e2 : (kvV.map fun p => p.1).map keyD = (kvs.map fun p => p.1).map keyD := by
      rw [List.map_map, List.map_map]
      exact e.symm
    exact keysD_inj e2
theorem DicK.at {S : List Cell} {d : D} {kvs : List (Key × D)} (h : DicK S d kvs) (ok : Ok g S ρ M H) {v : V} (r : Rp g M ρ v d) : ∃ a kvV, v = .ref a ∧ H a = some (.dK kvV) ∧ RK g M ρ kvV kvs := by
  cases d with
  | dic n ks vs =>
    have h : D.dic n ks vs = dK kvs := h
    rw [h] at r
    cases r with
    | dic e o r1 r2 =>
      obtain ⟨kvV, rfl, rk⟩ := o.inv r2
      exact ⟨_, kvV, rfl, ok.sub _ _ e, rk⟩
  | ptr l =>
    obtain ⟨a, e, r⟩ := rp_ptr r
    have h : S[l]? = some (cK kvs) := h
    cases ok.at_ l _ a h r with
    | dic e1 o r1 r2 =>
      obtain ⟨kvV, rfl, rk⟩ := o.inv r2
      exact ⟨a, kvV, e, e1, rk⟩
  | _ => exact (show False from h).elim
/-- a new table, made -/
theorem RK.rp {a : Addr} {kvV : List (Key × V)} {kvs : List (Key × D)} (rk : RK g M ρ kvV kvs) (e : M a = some (.dK kvV)) : Rp g M ρ (.ref a) (dK kvs) := by
  have e2 : (kvV.map fun p => keyD p.1) = kvs.map fun p => keyD p.1 := by
    have := congrArg (List.map keyD) rk.ks
    rw [List.map_map, List.map_map] at this
    exact this
  have h := Rp.dic (g := g) (M := M) (ρ := ρ) e (.k kvV) (ks := kvV.map fun p => keyD p.1) (vs := kvs.map fun p => p.2) (by
    have := keys_rp (g := g) (M := M) (ρ := ρ) (kvV.map fun p => p.1)
    rw [List.map_map, List.map_map] at this
    exact this) rk.vs
  rw [e2] at h
  exact h
theorem RK.cell {a : Addr} {kvV : List (Key × V)} {kvs : List (Key × D)} (rk : RK g M ρ kvV kvs) (e : H a = some (.dK kvV)) : CellAt g M H ρ a (cK kvs) := by
  have e2 : (kvV.map fun p => keyD p.1) = kvs.map fun p => keyD p.1 := by
    have := congrArg (List.map keyD) rk.ks
    rw [List.map_map, List.map_map] at this
    exact this
  have h := CellAt.dic (g := g) (M := M) (ρ := ρ) e (.k kvV) (ks := kvV.map fun p => keyD p.1) (vs := kvs.map fun p => p.2) (by
    have := keys_rp (g := g) (M := M) (ρ := ρ) (kvV.map fun p => p.1)
    rw [List.map_map, List.map_map] at this
    exact this) rk.vs
  rw [e2] at h
  exact h
end
end Ab
set_option Elab.async false
set_option linter.all false
set_option maxRecDepth 100000
set_option maxHeartbeats 4000000
/-! Operations on dicts; methods that change lists; fields stored; dict comprehensions. -/
namespace Ab
open PySem PySem.Spec PyProof.Rows L2
section
variable {X : Cx} {Γ : List (Option D)} {S : List Cell} {Φ : D → List Cell → Prop} {Ξ : XP} {o i e f v : Expr} {pos apos cpos pos' : Pos} {P : Post}
theorem dget_at {g : Gd} {ρ : List Addr} {M H : Hp} {x y : D} {kvs : List (Key × D)} {k : Key} (hx : DicK S x kvs) (hy : y = keyD k) (ok : Ok g S ρ M H) {vx vy : V} (rx : Rp g M ρ vx x) (ry : Rp g M ρ vy y) :
    ∃ a kvV, vx = .ref a ∧ vy = kV k ∧ H a = some (.dK kvV) ∧ RK g M ρ kvV kvs := by
  subst hy
  obtain ⟨a, kvV, e, q, rk⟩ := hx.at ok rx
  exact ⟨a, kvV, e, key_of_rp ry, q, rk⟩
/-- d[k] -/
theorem we_dget (hu : X.A.units + 1 < cLine) (h : WE X o Γ S (fun x S1 => WE X i Γ S1 (fun y S2 => ∃ kvs k d, DicK S2 x kvs ∧ y = keyD k ∧ getA kvs k = some d ∧ Φ d S2) Ξ) Ξ) (hs : NoSl i := by intro _ _; rfl) : WE X (.Subscript o i pos) Γ S Φ Ξ :=
  fun σ ρ M H Q W ok sl kv kx tk => PE.s (pe_dget hu (pe_s o) (pe_s i) hs) (h σ ρ M H _ W ok sl (fun x S1 vx ρ1 M1 H1 h1 t1 ok1 r1 => h1 σ ρ1 M1 H1 _ W ok1 (t1.slots sl) (fun y S2 vy ρ2 M2 H2 ⟨kvs, k, d, hx, hy, hg, p⟩ t2 ok2 r2 => by
    obtain ⟨a, kvV, e1, e2, q, rk⟩ := dget_at hx hy ok2 (t2.rp r1) r2
    rcases rk.get k with ⟨_, n⟩ | ⟨v, d', e3, e4, rv⟩
    · rw [n] at hg; cases hg
    · rw [hg] at e4
      cases e4
      refine ⟨a, v, e1, ?_, kv d S2 v ρ2 M2 H2 p (t1.trans t2) ok2 rv⟩
      rw [e2, ← e3]
      exact DGet.k q) (kx.to t1) tk) kx tk)
theorem din_go {g : Gd} {ρ : List Addr} {M H : Hp} {kvV : List (Key × V)} {kvs : List (Key × D)} (rk : RK g M ρ kvV kvs) (k : Key) : (valV kvV k).isSome = (getA kvs k).isSome := by
  rcases rk.get k with ⟨a, b⟩ | ⟨v, d, a, b, _⟩
  · rw [a, b]; rfl
  · rw [a, b]; rfl
/-- k in d -/
theorem we_din (hu : X.A.units + 1 < cLine) (h : WE X i Γ S (fun y S1 => WE X o Γ S1 (fun x S2 => ∃ kvs k, DicK S2 x kvs ∧ y = keyD k ∧ Φ (.bl (getA kvs k).isSome) S2) Ξ) Ξ) (hb : behindInMarks .In o = false := by rfl) : WE X (.Compare i [.In] [o] pos) Γ S Φ Ξ :=
  fun σ ρ M H Q W ok sl kv kx tk => PE.s (pe_cmp (pc_din hu (pe_s i) (pe_s o)) hb) (h σ ρ M H _ W ok sl (fun y S1 vy ρ1 M1 H1 h1 t1 ok1 r1 => h1 σ ρ1 M1 H1 _ W ok1 (t1.slots sl) (fun x S2 vx ρ2 M2 H2 ⟨kvs, k, hx, hy, p⟩ t2 ok2 r2 => by
    obtain ⟨a, kvV, e1, e2, q, rk⟩ := dget_at hx hy ok2 r2 (t2.rp r1)
    refine ⟨a, valV kvV k, e1, by rw [e2]; exact DGet.k q, ?_⟩
    rw [din_go rk (H := H2) k]
    exact kv _ S2 _ ρ2 M2 H2 p (t1.trans t2) ok2 (.bl _)) (kx.to t1) tk) kx tk)
theorem we_dnotin (hu : X.A.units + 1 < cLine) (h : WE X i Γ S (fun y S1 => WE X o Γ S1 (fun x S2 => ∃ kvs k, DicK S2 x kvs ∧ y = keyD k ∧ Φ (.bl (!(getA kvs k).isSome)) S2) Ξ) Ξ) (hb : behindInMarks .NotIn o = false := by rfl) : WE X (.Compare i [.NotIn] [o] pos) Γ S Φ Ξ :=
  fun σ ρ M H Q W ok sl kv kx tk => PE.s (pe_cmp (pc_dnotin hu (pe_s i) (pe_s o)) hb) (h σ ρ M H _ W ok sl (fun y S1 vy ρ1 M1 H1 h1 t1 ok1 r1 => h1 σ ρ1 M1 H1 _ W ok1 (t1.slots sl) (fun x S2 vx ρ2 M2 H2 ⟨kvs, k, hx, hy, p⟩ t2 ok2 r2 => by
    obtain ⟨a, kvV, e1, e2, q, rk⟩ := dget_at hx hy ok2 r2 (t2.rp r1)
    refine ⟨a, valV kvV k, e1, by rw [e2]; exact DGet.k q, ?_⟩
    rw [din_go rk (H := H2) k]
    exact kv _ S2 _ ρ2 M2 H2 p (t1.trans t2) ok2 (.bl _)) (kx.to t1) tk) kx tk)
theorem wt_din {ΦB : Bool → List Cell → Prop} (hu : X.A.units + 1 < cLine) (h : WE X i Γ S (fun y S1 => WE X o Γ S1 (fun x S2 => ∃ kvs k, DicK S2 x kvs ∧ y = keyD k ∧ ΦB (getA kvs k).isSome S2) Ξ) Ξ) (hb : behindInMarks .In o = false := by rfl) : WT X (.Compare i [.In] [o] pos) Γ S ΦB Ξ :=
  fun σ ρ M H Q W ok sl kb kx tk => PT.s (pt_cmp (pc_din hu (pe_s i) (pe_s o)) hb) (h σ ρ M H _ W ok sl (fun y S1 vy ρ1 M1 H1 h1 t1 ok1 r1 => h1 σ ρ1 M1 H1 _ W ok1 (t1.slots sl) (fun x S2 vx ρ2 M2 H2 ⟨kvs, k, hx, hy, p⟩ t2 ok2 r2 => by
    obtain ⟨a, kvV, e1, e2, q, rk⟩ := dget_at hx hy ok2 r2 (t2.rp r1)
    refine ⟨a, valV kvV k, e1, by rw [e2]; exact DGet.k q, ?_⟩
    rw [din_go rk (H := H2) k]
    exact ⟨_, rfl, kb _ S2 ρ2 M2 H2 p (t1.trans t2) ok2⟩) (kx.to t1) tk) kx tk)
theorem wt_dnotin {ΦB : Bool → List Cell → Prop} (hu : X.A.units + 1 < cLine) (h : WE X i Γ S (fun y S1 => WE X o Γ S1 (fun x S2 => ∃ kvs k, DicK S2 x kvs ∧ y = keyD k ∧ ΦB (!(getA kvs k).isSome) S2) Ξ) Ξ) (hb : behindInMarks .NotIn o = false := by rfl) : WT X (.Compare i [.NotIn] [o] pos) Γ S ΦB Ξ :=
  fun σ ρ M H Q W ok sl kb kx tk => PT.s (pt_cmp (pc_dnotin hu (pe_s i) (pe_s o)) hb) (h σ ρ M H _ W ok sl (fun y S1 vy ρ1 M1 H1 h1 t1 ok1 r1 => h1 σ ρ1 M1 H1 _ W ok1 (t1.slots sl) (fun x S2 vx ρ2 M2 H2 ⟨kvs, k, hx, hy, p⟩ t2 ok2 r2 => by
    obtain ⟨a, kvV, e1, e2, q, rk⟩ := dget_at hx hy ok2 r2 (t2.rp r1)
    refine ⟨a, valV kvV k, e1, by rw [e2]; exact DGet.k q, ?_⟩
    rw [din_go rk (H := H2) k]
    exact ⟨_, rfl, kb _ S2 ρ2 M2 H2 p (t1.trans t2) ok2⟩) (kx.to t1) tk) kx tk)
/-- d[k] = v, d a cell -/
theorem ws_dput (hu : X.A.units + 1 < cLine) (h : WE X v Γ S (fun z S1 => WE X o Γ S1 (fun x S2 => WE X i Γ S2 (fun y S3 => ∃ l kvs k, x = .ptr l ∧ S3[l]? = some (cK kvs) ∧ y = keyD k ∧ kvs.length ≤ 100000 ∧ P.nx Γ (S3.set l (cK (putA kvs k z)))) P.ex) P.ex) P.ex)
    (hs : swapsWith v (some (.Subscript o i pos')) pos.line X.env = pure false := by rfl) : WS X (.Assign [.Subscript o i pos'] v pos) Γ S P := fun σ ρ M H E ok sl sat => by
  obtain ⟨W, kx, tk⟩ := sat.ex
  refine PS.s (ps_dput hu (pe_s o) (pe_s i) (pe_s v) hs) (h σ ρ M H _ W ok sl (fun z S1 vz ρ1 M1 H1 h1 t1 ok1 r1 => h1 σ ρ1 M1 H1 _ W ok1 (t1.slots sl) (fun x S2 vx ρ2 M2 H2 h2 t2 ok2 r2 => h2 σ ρ2 M2 H2 _ W ok2 ((t1.trans t2).slots sl) (fun y S3 vy ρ3 M3 H3 ⟨l, kvs, k, ex, hl, hy, hz, p⟩ t3 ok3 r3 => ?_)
    (kx.to (t1.trans t2)) tk) (kx.to t1) tk) kx tk)
  have tt := (t1.trans t2).trans t3
  obtain ⟨a, kvV, e1, e2, q, rk⟩ := dget_at (S := S3) (x := x) (kvs := kvs) (by subst ex; exact hl) hy ok3 (t3.rp r2) r3
  subst ex
  obtain ⟨a', ea, ra⟩ := rp_ptr (t3.rp r2)
  have : a' = a := by
    rw [e1] at ea
    exact (V.ref.inj ea).symm
  subst this
  have rk2 := rk.put k ((t2.trans t3).rp r1)
  obtain ⟨ok4, t4⟩ := ok3.put (o := .dK (putK kvV k vz)) hl (by intro q; cases q) ra (rk2.cell upd_same)
  refine ⟨a', _, e1, by rw [e2]; exact DPut.k q (by rw [rk.length]; exact Nat.lt_of_le_of_lt hz (by decide)), sat.nx Γ _ σ ρ3 M3 _ p (tt.trans t4) ok4 ((tt.trans t4).slots sl)⟩
/-- d.get(k, x) -/
theorem we_dget2 (hu : X.A.units + 1 < cLine) (h : WE X o Γ S (fun x S1 => (∃ kvs, DicK S1 x kvs) ∧ WE X e Γ S1 (fun y S2 => WE X f Γ S2 (fun z S3 => ∃ kvs k, DicK S3 x kvs ∧ y = keyD k ∧ Φ ((getA kvs k).getD z) S3) Ξ) Ξ) Ξ) (m : M2 X o "get" apos e f cpos := by exact ⟨rfl, rfl, rfl, rfl⟩) : WE X (.Call (.Attribute o "get" apos) [e, f] [] cpos) Γ S Φ Ξ :=
  fun σ ρ M H Q W ok sl kv kx tk => PE.s (pe_dget2 hu (pe_s o) (pe_s e) (pe_s f) m) (h σ ρ M H _ W ok sl (fun x S1 vx ρ1 M1 H1 ⟨⟨kvs0, hx0⟩, h1⟩ t1 ok1 r1 => by
    obtain ⟨a, kvV0, e1, q0, _⟩ := hx0.at ok1 r1
    refine ⟨a, e1, .inl ⟨kvV0, .inl q0⟩, h1 σ ρ1 M1 H1 _ W ok1 (t1.slots sl) (fun y S2 vy ρ2 M2 H2 h2 t2 ok2 r2 => h2 σ ρ2 M2 H2 _ W ok2 ((t1.trans t2).slots sl) (fun z S3 vz ρ3 M3 H3 ⟨kvs, k, hx, hy, p⟩ t3 ok3 r3 => ?_) (kx.to (t1.trans t2)) tk) (kx.to t1) tk⟩
    obtain ⟨a', kvV, e1', e2, q, rk⟩ := dget_at hx hy ok3 ((t2.trans t3).rp r1) (t3.rp r2)
    have : a' = a := by
      rw [e1] at e1'
      exact (V.ref.inj e1').symm
    subst this
    refine ⟨valV kvV k, by rw [e2]; exact DGet.k q, ?_⟩
    rcases rk.get k with ⟨n1, n2⟩ | ⟨v, d, n1, n2, rv⟩
    · rw [n2] at p
      rw [n1]
      exact kv _ S3 _ ρ3 M3 H3 p ((t1.trans t2).trans t3) ok3 r3
    · rw [n2] at p
      rw [n1]
      exact kv _ S3 _ ρ3 M3 H3 p ((t1.trans t2).trans t3) ok3 rv) kx tk)
/-- d.pop(k), it is there; d a cell -/
theorem we_dpop1 (h : WE X o Γ S (fun x S1 => (∃ kvs, DicK S1 x kvs) ∧ WE X e Γ S1 (fun y S2 => ∃ l kvs k d, x = .ptr l ∧ S2[l]? = some (cK kvs) ∧ y = keyD k ∧ getA kvs k = some d ∧ Φ d (S2.set l (cK (delA kvs k)))) Ξ) Ξ) (m : M1 X o "pop" apos e cpos := by exact ⟨rfl, rfl, rfl, rfl⟩) : WE X (.Call (.Attribute o "pop" apos) [e] [] cpos) Γ S Φ Ξ :=
  fun σ ρ M H Q W ok sl kv kx tk => PE.s (pe_dpop1 (pe_s o) (pe_s e) m) (h σ ρ M H _ W ok sl (fun x S1 vx ρ1 M1 H1 ⟨⟨kvs0, hx0⟩, h1⟩ t1 ok1 r1 => by
    obtain ⟨a, kvV0, e1, q0, _⟩ := hx0.at ok1 r1
    refine ⟨a, e1, .inl ⟨kvV0, .inl q0⟩, h1 σ ρ1 M1 H1 _ W ok1 (t1.slots sl) (fun y S2 vy ρ2 M2 H2 ⟨l, kvs, k, d, ex, hl, hy, hg, p⟩ t2 ok2 r2 => ?_) (kx.to t1) tk⟩
    obtain ⟨a', kvV, e1', e2, q, rk⟩ := dget_at (S := S2) (x := x) (kvs := kvs) (by subst ex; exact hl) hy ok2 (t2.rp r1) r2
    have : a' = a := by
      rw [e1] at e1'
      exact (V.ref.inj e1').symm
    subst this
    subst ex
    obtain ⟨a2, ea, ra⟩ := rp_ptr (t2.rp r1)
    have : a2 = a' := by
      rw [e1] at ea
      exact (V.ref.inj ea).symm
    subst this
    rcases rk.get k with ⟨_, n⟩ | ⟨v, d', e3, e4, rv⟩
    · rw [n] at hg; cases hg
    · rw [hg] at e4
      cases e4
      obtain ⟨ok4, t4⟩ := ok2.put (o := .dK (dropK kvV k)) hl (by intro q; cases q) ra ((rk.del k).cell upd_same)
      exact ⟨kvV, k, v, q, e2, e3, kv d _ v ρ2 M2 _ p ((t1.trans t2).trans t4) ok4 (t4.rp rv)⟩) kx tk)
/-! lists that change -/
theorem rm_append {g : Gd} {l : Nat} {xs : List D} {d : D} (hl : S[l]? = some (.lst xs)) (hz : xs.length ≤ 1000000) (h : Φ .non (S.set l (.lst (xs ++ [d])))) : Rms g rAppend (.ptr l) [d] S Φ := fun ρ M H vx vs Q ok rx rs kv => by
  obtain ⟨a, ea, ra⟩ := rp_ptr rx
  cases rs with
  | cons r t =>
    cases t
    cases ok.at_ l _ a hl ra with
    | lst q r2 =>
      rename_i vl
      obtain ⟨ok4, t4⟩ := ok.put (o := .lst (vl ++ [_])) (c' := .lst (xs ++ [d])) hl (by intro q; cases q) ra (.lst upd_same (r2.append (.cons r .nil)))
      exact ⟨a, vl, _, ea, rfl, q, by rw [r2.length]; exact Nat.lt_of_le_of_lt hz (by decide), kv .non _ .non ρ M _ h t4 ok4 .non⟩
/-- o.f = e, o an instance -/
def putFD (f : Str) (v : D) : List (Str × D) → List (Str × D)
  | [] => [(f, v)]
  | q :: r => if q.1 = f then (f, v) :: r else q :: putFD f v r
theorem putF_rel {g : Gd} {M : Hp} {ρ : List Addr} {f : Str} {v : V} {d : D} (r : Rp g M ρ v d) : ∀ {fv : List (Str × V)} {fs : List (Str × D)}, fv.map (fun p => p.1) = fs.map (fun p => p.1) → Rps g M ρ (fv.map fun p => p.2) (fs.map fun p => p.2) →
    (putF f v fv).map (fun p => p.1) = (putFD f d fs).map (fun p => p.1) ∧ Rps g M ρ ((putF f v fv).map fun p => p.2) ((putFD f d fs).map fun p => p.2)
  | [], [], _, _ => ⟨rfl, .cons r .nil⟩
  | [], _ :: _, n, _ => by cases n
  | _ :: _, [], n, _ => by cases n
  | q :: fv, e :: fs, n, rs => by
    simp only [List.map_cons, List.cons.injEq] at n
    cases rs with
    | cons r1 r2 =>
      obtain ⟨ih1, ih2⟩ := putF_rel (f := f) r n.2 r2
      unfold putF putFD
      rw [n.1]
      by_cases h : e.1 = f
      · rw [if_pos h, if_pos h]
        exact ⟨by simp only [List.map_cons]; rw [n.2, h], .cons r r2⟩
      · rw [if_neg h, if_neg h]
        exact ⟨by simp only [List.map_cons, n.1, ih1], .cons r1 ih2⟩
theorem ws_fld {C : Addr} {x : Str} (cl : Cls X.K C) (na : NoAttr X.K C x) (h : WE X v Γ S (fun z S1 => WE X o Γ S1 (fun y S2 => ∃ l fs, y = .ptr l ∧ S2[l]? = some (.ins C fs) ∧ fs.length < 100 ∧ P.nx Γ (S2.set l (.ins C (putFD x z fs)))) P.ex) P.ex)
    (hs : swapsWith v (some (.Attribute o x pos')) pos.line X.env = pure false := by rfl) : WS X (.Assign [.Attribute o x pos'] v pos) Γ S P := fun σ ρ M H E ok sl sat => by
  obtain ⟨W, kx, tk⟩ := sat.ex
  refine PS.s (ps_fld (pe_s o) (pe_s v) hs) (h σ ρ M H _ W ok sl (fun z S1 vz ρ1 M1 H1 h1 t1 ok1 r1 => h1 σ ρ1 M1 H1 _ W ok1 (t1.slots sl) (fun y S2 vy ρ2 M2 H2 ⟨l, fs, ey, hl, hz, p⟩ t2 ok2 r2 => ?_) (kx.to t1) tk) kx tk)
  subst ey
  obtain ⟨a, ea, ra⟩ := rp_ptr r2
  cases ok2.at_ l _ a hl ra with
  | ins q n rf =>
    rename_i dx fv
    obtain ⟨n2, rf2⟩ := putF_rel (f := x) (t2.rp r1) n rf
    obtain ⟨ok4, t4⟩ := ok2.put (o := .ins C dx (putF x vz fv)) (c' := .ins C (putFD x z fs)) hl (by intro q; cases q) ra (.ins upd_same n2 rf2)
    have hl2 : fv.length < 1000 := by
      have := congrArg List.length n
      simp only [List.length_map] at this
      omega
    exact ⟨a, C, dx, fv, ea, q, cl, na, hl2, sat.nx Γ _ σ ρ2 M2 _ p ((t1.trans t2).trans t4) ok4 (((t1.trans t2).trans t4).slots sl)⟩
/-- xs[i] = e, xs a cell -/
theorem wg_setL {d : D} {ΦG : List (Option D) → List Cell → Prop} (h : WE X o Γ S (fun x S1 => WE X i Γ S1 (fun y S2 => ∃ l xs k j, x = .ptr l ∧ S2[l]? = some (.lst xs) ∧ y = .int k ∧ ixN xs.length k = some j ∧ ΦG Γ (S2.set l (.lst (xs.set j d)))) Ξ) Ξ)
    (ha : ∀ v, assign (.Subscript o i pos) X.env v = (do
      let ov ← holding [v] (eval o X.env)
      let iv ← holding [v, ov] (eval i X.env)
      standAt pos
      holding [v, ov, iv] (setItem ov iv v)
      release [v, ov, iv] []) := by intro _; rfl) : WG X (.Subscript o i pos) d Γ S ΦG Ξ :=
  fun v σ ρ M H Q W ok sl r kn kx tk => PG.s (pg_sub (pe_s o) (pe_s i) set_list ha) (h σ ρ M H _ W ok sl (fun x S1 vx ρ1 M1 H1 h1 t1 ok1 r1 => h1 σ ρ1 M1 H1 _ W ok1 (t1.slots sl) (fun y S2 vy ρ2 M2 H2 ⟨l, xs, k, j, ex, hl, ey, hj, p⟩ t2 ok2 r2 => by
    subst ex ey
    obtain ⟨a, ea, ra⟩ := rp_ptr (t2.rp r1)
    cases ok2.at_ l _ a hl ra with
    | lst q rl =>
      rename_i vl
      obtain ⟨ok4, t4⟩ := ok2.put (o := .lst (vl.set j v)) (c' := .lst (xs.set j d)) hl (by intro q; cases q) ra (.lst upd_same (Rps.set ((t1.trans t2).rp r) j rl))
      exact ⟨a, vl, k, j, ea, rp_int r2, q, by rw [rl.length]; exact hj, kn Γ _ σ ρ2 M2 _ p ((t1.trans t2).trans t4) ok4 (((t1.trans t2).trans t4).slots sl)⟩) (kx.to t1) tk) kx tk)
end
end Ab
set_option Elab.async false
set_option linter.all false
set_option maxRecDepth 100000
set_option maxHeartbeats 4000000
/-! Calls of builtins, f-strings, joins; what else is walked; a dict that is read while it is locked. -/
namespace Ab
open PySem PySem.Spec PyProof.Rows L2
section
variable {X : Cx} {Γ : List (Option D)} {S : List Cell} {Φ : D → List Cell → Prop} {Ξ : XP} {o i e f v : Expr} {pos apos cpos pos' p : Pos} {g : Gd}
/-! one argument -/
theorem we_call1 {id : String} {x : Str} {r : List V → Hp → VK → Prop} (hc : CallR X (.builtin id) r) (hg : Gl X x) (hm : X.mg x = none) (hv : bootBuiltins x = some (.builtin id)) (h : WE X e Γ S (fun d S1 => Rcs (gd X) r [d] S1 Φ) Ξ) (hn : x ≠ "__name__" := by decide) (hdb : (x == ("__debug__" : Str)) = false := by decide)
    (he : starEach [e] X.env = [(false, eval e X.env)] := by rfl) : WE X (.Call (.Name x p) [e] [] pos) Γ S Φ Ξ :=
  we_callB hc hg hm hv (wa_cons (h.imp fun d S1 q => wa_nil q) he) hn hdb he rfl
theorem we_callTy1 {T : String} {x : Str} {r : List V → Hp → VK → Prop} (hc : CallR X (.type T) r) (hg : Gl X x) (hm : X.mg x = none) (hv : bootBuiltins x = some (.type T)) (h : WE X e Γ S (fun d S1 => Rcs (gd X) r [d] S1 Φ) Ξ) (hn : x ≠ "__name__" := by decide) (hdb : (x == ("__debug__" : Str)) = false := by decide)
    (he : starEach [e] X.env = [(false, eval e X.env)] := by rfl) : WE X (.Call (.Name x p) [e] [] pos) Γ S Φ Ξ :=
  we_callTy hc hg hm hv (wa_cons (h.imp fun d S1 q => wa_nil q) he) hn hdb he rfl
theorem rps1 {M : Hp} {ρ : List Addr} {vs : List V} {d : D} (r : Rps g M ρ vs [d]) : ∃ v, vs = [v] ∧ Rp g M ρ v d := by
  cases r with
  | cons r t => cases t; exact ⟨_, rfl, r⟩
theorem rc_len {x : D} {xs : List D} (hx : SeqD S x xs) (h : Φ (.int xs.length) S) : Rcs g (fun vs H Q => ∃ p ys, vs = [.ref p] ∧ (SqL g.K H p ys ∨ SqT g.K H p ys) ∧ Q (.int ys.length) H) [x] S Φ := fun ρ M H vs Q ok rs kv => by
  obtain ⟨v, rfl, r⟩ := rps1 rs
  obtain ⟨a, us, e, q, ru⟩ := hx.at ok r
  refine ⟨a, us, by rw [e], q, ?_⟩
  rw [ru.length]
  exact kv _ S _ ρ M H h .refl ok (.int _)
theorem we_len (hg : Gl X "len") (hm : X.mg "len" = none) (h : WE X e Γ S (fun x S1 => ∃ xs, SeqD S1 x xs ∧ Φ (.int xs.length) S1) Ξ) (he : starEach [e] X.env = [(false, eval e X.env)] := by rfl) : WE X (.Call (.Name "len" p) [e] [] pos) Γ S Φ Ξ :=
  we_call1 call_len_seq hg hm boot_len (h.imp fun x S1 ⟨xs, hx, q⟩ => rc_len hx q) (he := he)
theorem we_lenS (hg : Gl X "len") (hm : X.mg "len" = none) (h : WE X e Γ S (fun x S1 => ∃ s : Str, x = .str s ∧ s.length ≤ 1000000 ∧ Φ (.int s.length) S1) Ξ) (he : starEach [e] X.env = [(false, eval e X.env)] := by rfl) : WE X (.Call (.Name "len" p) [e] [] pos) Γ S Φ Ξ :=
  we_call1 call_len_str hg hm boot_len (h.imp fun x S1 ⟨s, hx, hz, q⟩ ρ M H vs Q ok rs kv => by
    obtain ⟨v, rfl, r⟩ := rps1 rs
    subst hx
    exact ⟨s, by rw [rp_str r], Nat.le_trans hz (by decide), kv _ S1 _ ρ M H q .refl ok (.int _)⟩) (he := he)
theorem we_lenD (hg : Gl X "len") (hm : X.mg "len" = none) (h : WE X e Γ S (fun x S1 => ∃ kvs, DicK S1 x kvs ∧ Φ (.int kvs.length) S1) Ξ) (he : starEach [e] X.env = [(false, eval e X.env)] := by rfl) : WE X (.Call (.Name "len" p) [e] [] pos) Γ S Φ Ξ :=
  we_call1 call_lenD hg hm boot_len (h.imp fun x S1 ⟨kvs, hx, q⟩ ρ M H vs Q ok rs kv => by
    obtain ⟨v, rfl, r⟩ := rps1 rs
    obtain ⟨a, kvV, e1, q1, rk⟩ := hx.at ok r
    refine ⟨a, kvV, by rw [e1], q1, ?_⟩
    rw [rk.length]
    exact kv _ S1 _ ρ M H q .refl ok (.int _)) (he := he)
theorem we_ord (hg : Gl X "ord") (hm : X.mg "ord" = none) (h : WE X e Γ S (fun x S1 => ∃ s : Str, x = .str s ∧ s.length = 1 ∧ Φ (.int (s.cps.getD 0 0 : Nat)) S1) Ξ) (he : starEach [e] X.env = [(false, eval e X.env)] := by rfl) : WE X (.Call (.Name "ord" p) [e] [] pos) Γ S Φ Ξ :=
  we_call1 call_ord hg hm boot_ord (h.imp fun x S1 ⟨s, hx, hz, q⟩ ρ M H vs Q ok rs kv => by
    obtain ⟨v, rfl, r⟩ := rps1 rs
    subst hx
    exact ⟨s, by rw [rp_str r], hz, kv _ S1 _ ρ M H q .refl ok (.int _)⟩) (he := he)
theorem we_strI (hg : Gl X "str") (hm : X.mg "str" = none) (h : WE X e Γ S (fun x S1 => ∃ k : Int, x = .int k ∧ k.natAbs.log2 < 1920 ∧ Φ (.str (toString k)) S1) Ξ) (he : starEach [e] X.env = [(false, eval e X.env)] := by rfl) : WE X (.Call (.Name "str" p) [e] [] pos) Γ S Φ Ξ :=
  we_callTy1 call_str_int hg hm boot_str (h.imp fun x S1 ⟨s, hx, hz, q⟩ ρ M H vs Q ok rs kv => by
    obtain ⟨v, rfl, r⟩ := rps1 rs
    subst hx
    exact ⟨s, by rw [rp_int r], hz, kv _ S1 _ ρ M H q .refl ok (.str _)⟩) (he := he)
theorem we_any (hc : X.calm = true) (hg : Gl X "any") (hm : X.mg "any" = none) (h : WE X e Γ S (fun x S1 => ∃ bs : List Bool, LstD S1 x (bs.map D.bl) ∧ Φ (.bl (bs.any id)) S1) Ξ) (he : starEach [e] X.env = [(false, eval e X.env)] := by rfl) : WE X (.Call (.Name "any" p) [e] [] pos) Γ S Φ Ξ :=
  we_call1 (cr_any hc) hg hm boot_any (h.imp fun x S1 ⟨s, hx, q⟩ ρ M H vs Q ok rs kv => by
    obtain ⟨v, rfl, r⟩ := rps1 rs
    obtain ⟨a, us, e1, q1, ru⟩ := hx.at ok r
    have := rps_bls ru
    subst this
    exact ⟨a, s, by rw [e1], q1, kv _ S1 _ ρ M H q .refl ok (.bl _)⟩) (he := he)
theorem we_all (hc : X.calm = true) (hg : Gl X "all") (hm : X.mg "all" = none) (h : WE X e Γ S (fun x S1 => ∃ bs : List Bool, LstD S1 x (bs.map D.bl) ∧ Φ (.bl (bs.all id)) S1) Ξ) (he : starEach [e] X.env = [(false, eval e X.env)] := by rfl) : WE X (.Call (.Name "all" p) [e] [] pos) Γ S Φ Ξ :=
  we_call1 (cr_all hc) hg hm boot_all (h.imp fun x S1 ⟨s, hx, q⟩ ρ M H vs Q ok rs kv => by
    obtain ⟨v, rfl, r⟩ := rps1 rs
    obtain ⟨a, us, e1, q1, ru⟩ := hx.at ok r
    have := rps_bls ru
    subst this
    exact ⟨a, s, by rw [e1], q1, kv _ S1 _ ρ M H q .refl ok (.bl _)⟩) (he := he)
/-- list(xs), for good -/
theorem we_listF (hg : Gl X "list") (hm : X.mg "list" = none) (h : WE X e Γ S (fun x S1 => ∃ xs, SeqD S1 x xs ∧ Φ (.lst xs) S1) Ξ) (he : starEach [e] X.env = [(false, eval e X.env)] := by rfl) : WE X (.Call (.Name "list" p) [e] [] pos) Γ S Φ Ξ :=
  we_callTy1 call_list_of hg hm boot_list (h.imp fun x S1 ⟨xs, hx, q⟩ ρ M H vs Q ok rs kv => by
    obtain ⟨v, rfl, r⟩ := rps1 rs
    obtain ⟨a, us, e1, q1, ru⟩ := hx.at ok r
    refine ⟨a, us, by rw [e1], q1, fun l hl => ?_⟩
    obtain ⟨ok2, t2⟩ := ok.keep (o := .lst us) hl
    exact kv _ S1 _ ρ _ _ q t2 ok2 (.lst (SqL.of upd_same) (t2.rps ru))) (he := he)
/-- list(d), the keys: a cell -/
theorem we_listK (hc : X.calm = true) (hg : Gl X "list") (hm : X.mg "list" = none) (h : WE X e Γ S (fun x S1 => ∃ kvs, DicK S1 x kvs ∧ Φ (.ptr S1.length) (S1 ++ [.lst (kvs.map fun q => keyD q.1)])) Ξ) (he : starEach [e] X.env = [(false, eval e X.env)] := by rfl) : WE X (.Call (.Name "list" p) [e] [] pos) Γ S Φ Ξ :=
  we_callTy1 (call_listD hc) hg hm boot_list (h.imp fun x S1 ⟨kvs, hx, q⟩ ρ M H vs Q ok rs kv => by
    obtain ⟨v, rfl, r⟩ := rps1 rs
    obtain ⟨a, kvV, e1, q1, rk⟩ := hx.at ok r
    refine ⟨a, kvV, by rw [e1], .inl q1, fun l hl => ?_⟩
    have rr : Rps (gd X) M (ρ ++ [l]) (kvV.map fun kv => kV kv.1) (kvs.map fun q => keyD q.1) := by
      have := keys_rp (g := gd X) (M := M) (ρ := ρ ++ [l]) (kvV.map fun p => p.1)
      rw [List.map_map] at this
      have e2 : (kvs.map fun q => keyD q.1) = (kvV.map fun p => p.1).map keyD := by
        rw [rk.ks, List.map_map]
        rfl
      rw [e2]
      exact this
    obtain ⟨ok2, t2⟩ := ok.more (o := .lst (kvV.map fun kv => kV kv.1)) (c := .lst (kvs.map fun q => keyD q.1)) hl (.lst upd_same rr)
    exact kv _ _ _ _ _ _ q t2 ok2 (.ptr (by rw [← ok.len]; simp))) (he := he)
theorem we_tupF (hg : Gl X "tuple") (hm : X.mg "tuple" = none) (h : WE X e Γ S (fun x S1 => ∃ xs, LstD S1 x xs ∧ Φ (.tup xs) S1) Ξ) (he : starEach [e] X.env = [(false, eval e X.env)] := by rfl) : WE X (.Call (.Name "tuple" p) [e] [] pos) Γ S Φ Ξ :=
  we_callTy1 call_tuple_of hg hm boot_tuple (h.imp fun x S1 ⟨xs, hx, q⟩ ρ M H vs Q ok rs kv => by
    obtain ⟨v, rfl, r⟩ := rps1 rs
    obtain ⟨a, us, e1, q1, ru⟩ := hx.at ok r
    refine ⟨a, us, by rw [e1], .inl ⟨q1, fun l hl => ?_⟩⟩
    obtain ⟨ok2, t2⟩ := ok.keep (o := .tup us) hl
    exact kv _ S1 _ ρ _ _ q t2 ok2 (.tup (SqT.of upd_same) (t2.rps ru))) (he := he)
/-- dict(d), a cell -/
theorem we_dictC (hg : Gl X "dict") (hm : X.mg "dict" = none) (h : WE X e Γ S (fun x S1 => ∃ kvs, DicK S1 x kvs ∧ Φ (.ptr S1.length) (S1 ++ [cK kvs])) Ξ) (he : starEach [e] X.env = [(false, eval e X.env)] := by rfl) : WE X (.Call (.Name "dict" p) [e] [] pos) Γ S Φ Ξ :=
  we_callTy1 call_dictD hg hm boot_dict (h.imp fun x S1 ⟨kvs, hx, q⟩ ρ M H vs Q ok rs kv => by
    obtain ⟨v, rfl, r⟩ := rps1 rs
    obtain ⟨a, kvV, e1, q1, rk⟩ := hx.at ok r
    refine ⟨a, kvV, by rw [e1], .inl q1, fun l hl => ?_⟩
    have pre : ∀ (j : Nat) (b : Addr), ρ[j]? = some b → (ρ ++ [l])[j]? = some b := fun j b hb => by
      rw [List.getElem?_append_left (List.getElem?_eq_some_iff.mp hb).1]
      exact hb
    obtain ⟨ok2, t2⟩ := ok.more (o := .dK kvV) (c := cK kvs) hl ((rk.mono (fun _ _ h => h) pre).cell upd_same)
    exact kv _ _ _ _ _ _ q t2 ok2 (.ptr (by rw [← ok.len]; simp))) (he := he)
/-- sorted(d), d of texts -/
theorem we_sortedD (hc : X.calm = true) (hg : Gl X "sorted") (hm : X.mg "sorted" = none) (h : WE X e Γ S (fun x S1 => ∃ (kvs : List (Key × D)) (ks : List Str), DicK S1 x kvs ∧ kvs.map (fun q => q.1) = ks.map Sum.inr ∧ ks.length < 64 ∧ ∀ ys : List Str, ys.Perm ks → sortedS ys = true → Φ (.lst (ys.map D.str)) S1) Ξ) (he : starEach [e] X.env = [(false, eval e X.env)] := by rfl) : WE X (.Call (.Name "sorted" p) [e] [] pos) Γ S Φ Ξ :=
  we_call1 (call_sortedD hc) hg hm boot_sorted (h.imp fun x S1 ⟨kvs, ks, hx, hk, hz, q⟩ ρ M H vs Q ok rs kv => by
    obtain ⟨v, rfl, r⟩ := rps1 rs
    obtain ⟨a, kvV, e1, q1, rk⟩ := hx.at ok r
    refine ⟨a, kvV, ks, by rw [e1], .inl q1, rk.ks.trans hk, hz, fun ys l h1 h2 hl => ?_⟩
    obtain ⟨ok2, t2⟩ := ok.keep (o := .lst (ys.map V.str)) hl
    exact kv _ S1 _ ρ _ _ (q ys h1 h2) t2 ok2 (.lst (SqL.of upd_same) (strs_rps ys))) (he := he)

/-! ### f-strings, join -/
theorem we_fmt (h : WE X e Γ S (fun d S1 => (∃ y : Str, d = .str y ∧ y.length ≤ 1000000 ∧ Φ (.str y) S1) ∨ ∃ k : Int, d = .int k ∧ k.natAbs.log2 < 1920 ∧ Φ (.str (toString k)) S1) Ξ) : WE X (.FormattedValue e (-1) none pos) Γ S Φ Ξ :=
  fun σ ρ M H Q W ok sl kv kx tk => PE.s (pe_fmt (pe_s e)) (h σ ρ M H _ W ok sl (fun d S1 v ρ1 M1 H1 h1 t1 ok1 r1 => by
    rcases h1 with ⟨y, rfl, hz, q⟩ | ⟨k, rfl, hz, q⟩
    · exact .inl ⟨y, rp_str r1, Nat.le_trans hz (by decide), kv _ S1 _ ρ1 M1 H1 q t1 ok1 (.str _)⟩
    · exact .inr ⟨k, rp_int r1, hz, kv _ S1 _ ρ1 M1 H1 q t1 ok1 (.str _)⟩) kx tk)
def WJ (X : Cx) : List Expr → Str → List (Option D) → List Cell → (Str → List Cell → Prop) → XP → Prop
  | [], acc, _, S, Φ, _ => Φ acc S
  | e :: es, acc, Γ, S, Φ, Ξ => WE X e Γ S (fun d S1 => ∃ y : Str, d = .str y ∧ acc.length + y.length ≤ 1000000 ∧ WJ X es (acc ++ y) Γ S1 Φ Ξ) Ξ
theorem pj_s : ∀ es : List Expr, PJ X es (es.map (sE X))
  | [] => .nil
  | e :: es => .cons (pe_s e) (pj_s es)
theorem wj_run {ΦS : Str → List Cell → Prop} : ∀ {es : List Expr} {acc : Str} {S : List Cell} {σ : L2.St} {ρ : List Addr} {M H : Hp} {W : WX} {Q : Str → Hp → Prop}, WJ X es acc Γ S ΦS Ξ → Ok (gd X) S ρ M H → Slots (gd X) M ρ σ Γ → Kx (gd X) S ρ M H Ξ W → Takes X W →
    (∀ s S' ρ' M' H', ΦS s S' → To S ρ M H S' ρ' M' H' → Ok (gd X) S' ρ' M' H' → Q s H') → tJs (es.map (sE X)) acc σ H Q
  | [], acc, S, _, ρ, M, H, _, _, h, ok, _, _, _, k => k acc S ρ M H h .refl ok
  | e :: es, acc, S, σ, ρ, M, H, W, Q, h, ok, sl, kx, tk, k => (show WE X e Γ S _ Ξ from h) σ ρ M H _ W ok sl (fun d S1 v ρ1 M1 H1 ⟨y, ed, hz, h1⟩ t1 ok1 r1 => by
      subst ed
      refine ⟨y, rp_str r1, ?_, wj_run h1 ok1 (t1.slots sl) (kx.to t1) tk fun s S' ρ' M' H' p t => k s S' ρ' M' H' p (t1.trans t)⟩
      have : (acc ++ y).length = acc.length + y.length := Str.length_append acc y
      rw [this]
      exact Nat.le_trans hz (by decide)) kx tk
theorem we_fstr {v1 v2 : Expr} {rest : List Expr} (h : WJ X (v1 :: v2 :: rest) Str.empty Γ S (fun s S' => Φ (.str s) S') Ξ) : WE X (.JoinedStr (v1 :: v2 :: rest) pos) Γ S Φ Ξ :=
  fun σ ρ M H Q W ok sl kv kx tk => PE.s (pe_joined (pj_s (v1 :: v2 :: rest))) (wj_run (Q := fun out H1 => Q (.str out) H1) h ok sl kx tk fun s S' ρ' M' H' p t ok' => kv _ S' _ ρ' M' H' p t ok' (.str _))
theorem we_join (h : WE X o Γ S (fun d S1 => ∃ a : Str, d = .str a ∧ WE X e Γ S1 (fun y S2 => ∃ ys : List Str, SeqD S2 y (ys.map D.str) ∧ (ys.map (·.length)).sum + ys.length * a.length ≤ 16777216 ∧ Φ (.str (Txt.join a ys)) S2) Ξ) Ξ)
    (hs : starEach [e] X.env = [(false, eval e X.env)] := by rfl) (hbase : attributeBase o "join" X.env (eval o X.env) = eval o X.env := by rfl) (hline : (apos.endLine == cpos.line) = true := by rfl) : WE X (.Call (.Attribute o "join" apos) [e] [] cpos) Γ S Φ Ξ :=
  fun σ ρ M H Q W ok sl kv kx tk => PE.s (pe_join (pe_s o) (pe_s e) hs hbase hline) (h σ ρ M H _ W ok sl (fun d S1 v ρ1 M1 H1 ⟨a, ed, h1⟩ t1 ok1 r1 => by
    subst ed
    refine ⟨⟨a, rp_str r1⟩, h1 σ ρ1 M1 H1 _ W ok1 (t1.slots sl) (fun y S2 vy ρ2 M2 H2 ⟨ys, hy, hz, q⟩ t2 ok2 r2 => ?_) (kx.to t1) tk⟩
    obtain ⟨b, us, e1, q1, ru⟩ := hy.at ok2 r2
    have := rps_strs ru
    subst this
    exact ⟨a, b, ys, rp_str r1, by rw [e1], q1, hz, kv _ S2 _ ρ2 M2 H2 q (t1.trans t2) ok2 (.str _)⟩) kx tk)
end

/-! ### what else is walked -/
section
variable {X : Cx} {Γ : List (Option D)} {S : List Cell} {Φ : List D → (List Cell → Prop) → List Cell → Prop} {Ξ : XP} {tg e : Expr} {pos apos cpos tpos p : Pos} {elts : List Expr} {kk : Nat}
def enumD (ds : List D) : List D := (List.range ds.length).zipWith (fun i d => .tup [.int (i : Nat), d]) ds
theorem enumD_len (ds : List D) : (enumD ds).length = ds.length := by simp [enumD]
theorem enumD_get {ds : List D} {i : Nat} {d : D} (h : ds[i]? = some d) : (enumD ds)[i]? = some (.tup [.int (i : Nat), d]) := by
  obtain ⟨hi, e⟩ := List.getElem?_eq_some_iff.mp h
  simp [enumD, List.getElem?_zipWith, hi, e]
theorem wi_enum (hg : Gl X "enumerate") (hm : X.mg "enumerate" = none) (h : WE X e Γ S (fun d S1 => ∃ ds, LstD S1 d ds ∧ Φ (enumD ds) (fun S' => LstD S' d ds) S1) Ξ) (hs : starEach [e] X.env = [(false, eval e X.env)] := by rfl) : WI X (.Tuple elts kk tpos) (.Call (.Name "enumerate" p) [e] [] pos) Γ S Φ Ξ :=
  have hw : WA X [e] Γ S (fun ds0 S1 => ∃ d ds, ds0 = [d] ∧ LstD S1 d ds ∧ Φ (enumD ds) (fun S' => LstD S' d ds) S1) Ξ := by
    refine wa_cons (h.imp fun d S1 q => wa_nil ?_) hs
    obtain ⟨ds, q1, q2⟩ := q
    exact ⟨d, ds, rfl, q1, q2⟩
  ⟨_, pi_enum hg hm (pa_s [e]) hs, fun σ ρ M H R W ok sl k kx tk => hw σ ρ M H _ W ok sl (fun ds0 S1 vs0 ρ1 M1 H1 ⟨d, ds, e0, hl, p⟩ t1 ok1 r0 => by
    subst e0
    obtain ⟨v, rfl, r1⟩ := rps1 r0
    obtain ⟨a, vs, e1, q1, rs⟩ := hl.at ok1 r1
    refine ⟨a, vs, by rw [e1], q1, k _ (enumD ds) _ S1 ρ1 M1 H1 p t1 ok1 ?_⟩
    have get : ∀ S' ρ' M' H', Up ρ1 M1 ρ' M' → Ok (gd X) S' ρ' M' H' → LstD S' d ds → ∃ vs', SqL X.K H' a vs' ∧ Rps (gd X) M' ρ' vs' ds := fun S' ρ' M' H' t' ok' hl' => by
      obtain ⟨a', vs', e', q', rs'⟩ := hl'.at ok' (t'.rp r1)
      rw [e1] at e'
      cases e'
      exact ⟨vs', q', rs'⟩
    refine ⟨fun i S' ρ' M' H' t' ok' g' hi => ?_, fun i S' ρ' M' H' x H2 t' ok' g' hi y => ?_, fun S' ρ' M' H' t' ok' g' => ?_⟩
    · obtain ⟨vs', q', rs'⟩ := get S' ρ' M' H' t' ok' g'
      rw [enumD_len] at hi
      have hx : ds[i]? = some ds[i] := by simp [hi]
      obtain ⟨vx, ev, _⟩ := rs'.get hx
      exact ⟨vs', vx, q', ev⟩
    · obtain ⟨vs', q', rs'⟩ := get S' ρ' M' H' t' ok' g'
      obtain ⟨T, x', ex, hT, eH, y⟩ := y
      obtain ⟨dx, ed, rx⟩ := rs'.getV (y vs' q')
      obtain ⟨ok2, t2⟩ := ok'.keep (o := .tup [.int (i : Nat), x']) hT
      subst ex eH
      exact ⟨_, _, enumD_get ed, t2, ok2, .tup (SqT.of upd_same) (.cons (.int _) (.cons (t2.rp rx) .nil))⟩
    · obtain ⟨vs', q', rs'⟩ := get S' ρ' M' H' t' ok' g'
      exact ⟨vs', q', by rw [rs'.length, enumD_len]; exact Nat.le_refl _⟩) kx tk⟩
def charsD (s : Str) : List D := s.cps.toList.map fun c => .str ⟨#[c]⟩
theorem wi_str (h : WE X e Γ S (fun d S1 => ∃ s : Str, d = .str s ∧ Φ (charsD s) (fun _ => True) S1) Ξ) : WI X tg e Γ S Φ Ξ :=
  ⟨_, pi_str (pe_s e), fun σ ρ M H R W ok sl k kx tk => h σ ρ M H _ W ok sl (fun d S1 v ρ1 M1 H1 ⟨s, hl, p⟩ t1 ok1 r1 => by
    subst hl
    refine ⟨s, rp_str r1, k _ (charsD s) _ S1 ρ1 M1 H1 p t1 ok1 ?_⟩
    have hz : (charsD s).length = s.cps.size := by simp [charsD]
    refine ⟨fun i S' ρ' M' H' t' ok' g' hi => ?_, fun i S' ρ' M' H' x H2 t' ok' g' hi y => ?_, fun S' ρ' M' H' t' ok' g' => ?_⟩
    · rw [hz] at hi
      exact hi
    · obtain ⟨eH, c, hc, ex⟩ := y
      subst eH ex
      refine ⟨.str ⟨#[c]⟩, M', ?_, .refl, ok', .str _⟩
      have : s.cps.toList[i]? = some c := by simpa using hc
      simp only [charsD, List.getElem?_map, this, Option.map_some]
    · rw [hz]
      exact Nat.le_refl _) kx tk⟩
/-- the keys of a locked dict -/
theorem wi_keys (h : WE X e Γ S (fun d S1 => ∃ l o kvV kvs, d = .ptr l ∧ S1[l]? = some (.frz o kvV kvs) ∧ Φ (kvs.map fun q => keyD q.1) (fun S' => S'[l]? = some (.frz o kvV kvs)) S1) Ξ) : WI X tg e Γ S Φ Ξ :=
  ⟨_, pi_keys (pe_s e), fun σ ρ M H R W ok sl k kx tk => h σ ρ M H _ W ok sl (fun d S1 v ρ1 M1 H1 ⟨l, o, kvV, kvs, ed, hl, p⟩ t1 ok1 r1 => by
    subst ed
    obtain ⟨a, ea, ra⟩ := rp_ptr r1
    have get : ∀ S' ρ' M' H', Up ρ1 M1 ρ' M' → Ok (gd X) S' ρ' M' H' → S'[l]? = some (.frz o kvV kvs) → H' a = some (.frz o (.dK kvV)) ∧ kvV.map (fun p => p.1) = kvs.map (fun p => p.1) := fun S' ρ' M' H' t' ok' hl' => by
      cases ok'.at_ l _ a hl' (t'.pre _ _ ra) with
      | frz q n r => exact ⟨q, n⟩
    have hz : kvV.length = kvs.length := by
      have := congrArg List.length (get S1 ρ1 M1 H1 .refl ok1 hl).2
      simpa using this
    refine ⟨a, o, ea, .inl ⟨kvV, (get S1 ρ1 M1 H1 .refl ok1 hl).1, k _ (kvs.map fun q => keyD q.1) _ S1 ρ1 M1 H1 p t1 ok1 ?_⟩⟩
    refine ⟨fun i S' ρ' M' H' t' ok' g' hi => ?_, fun i S' ρ' M' H' x H2 t' ok' g' hi y => ?_, fun S' ρ' M' H' t' ok' g' => ?_⟩
    · rw [List.length_map] at hi
      exact ⟨(get S' ρ' M' H' t' ok' g').1, by rw [hz]; exact hi⟩
    · obtain ⟨_, n⟩ := get S' ρ' M' H' t' ok' g'
      obtain ⟨eH, k', v', hk, ex⟩ := y
      subst eH ex
      have e2 : (kvs.map fun q => q.1)[i]? = some k' := by
        rw [← n, List.getElem?_map, hk]
        rfl
      refine ⟨keyD k', M', ?_, .refl, ok', ?_⟩
      · rw [List.getElem?_map] at e2 ⊢
        cases e3 : kvs[i]? with
        | none => rw [e3] at e2; cases e2
        | some z =>
          rw [e3] at e2
          cases e2
          rfl
      · cases k' with
        | inl j => exact .int _
        | inr s => exact .str _
    · exact ⟨(get S' ρ' M' H' t' ok' g').1, by rw [hz, List.length_map]; exact Nat.le_refl _⟩) kx tk⟩
/-- .. the pairs -/
theorem wi_items (h : WE X e Γ S (fun d S1 => ∃ l o kvV kvs, d = .ptr l ∧ S1[l]? = some (.frz o kvV kvs) ∧ Φ (kvs.map fun q => .tup [keyD q.1, q.2]) (fun S' => S'[l]? = some (.frz o kvV kvs)) S1) Ξ)
    (hbase : attributeBase e "items" X.env (eval e X.env) = eval e X.env := by rfl) (hline : (apos.endLine == cpos.line) = true := by rfl) : WI X (.Tuple elts kk tpos) (.Call (.Attribute e "items" apos) [] [] cpos) Γ S Φ Ξ :=
  ⟨_, pi_items (pe_s e) hbase hline, fun σ ρ M H R W ok sl k kx tk => h σ ρ M H _ W ok sl (fun d S1 v ρ1 M1 H1 ⟨l, o, kvV, kvs, ed, hl, p⟩ t1 ok1 r1 => by
    subst ed
    obtain ⟨a, ea, ra⟩ := rp_ptr r1
    have get : ∀ S' ρ' M' H', Up ρ1 M1 ρ' M' → Ok (gd X) S' ρ' M' H' → S'[l]? = some (.frz o kvV kvs) → H' a = some (.frz o (.dK kvV)) ∧ RK (gd X) M' ρ' kvV kvs := fun S' ρ' M' H' t' ok' hl' => by
      cases ok'.at_ l _ a hl' (t'.pre _ _ ra) with
      | frz q n r => exact ⟨q, n, r⟩
    have hz : kvV.length = kvs.length := (get S1 ρ1 M1 H1 .refl ok1 hl).2.length
    refine ⟨a, o, kvV, ea, (get S1 ρ1 M1 H1 .refl ok1 hl).1, k _ (kvs.map fun q => .tup [keyD q.1, q.2]) _ S1 ρ1 M1 H1 p t1 ok1 ?_⟩
    refine ⟨fun i S' ρ' M' H' t' ok' g' hi => ?_, fun i S' ρ' M' H' x H2 t' ok' g' hi y => ?_, fun S' ρ' M' H' t' ok' g' => ?_⟩
    · rw [List.length_map] at hi
      exact ⟨(get S' ρ' M' H' t' ok' g').1, by rw [hz]; exact hi⟩
    · obtain ⟨_, n⟩ := get S' ρ' M' H' t' ok' g'
      obtain ⟨T, k', v', hk, ex, hT, eH⟩ := y
      subst eH ex
      have hv : (kvV.map fun p => p.2)[i]? = some v' := by rw [List.getElem?_map, hk]; rfl
      obtain ⟨d', hd, rd⟩ := n.vs.getV hv
      have e2 : (kvs.map fun q => q.1)[i]? = some k' := by
        rw [← n.ks, List.getElem?_map, hk]
        rfl
      obtain ⟨ok2, t2⟩ := ok'.keep (o := .tup [kV k', v']) hT
      refine ⟨.tup [keyD k', d'], _, ?_, t2, ok2, .tup (SqT.of upd_same) (.cons ?_ (.cons (t2.rp rd) .nil))⟩
      · rw [List.getElem?_map] at e2 hd ⊢
        cases e3 : kvs[i]? with
        | none => rw [e3] at e2; cases e2
        | some z =>
          rw [e3] at e2 hd
          cases e2
          cases hd
          rfl
      · cases k' with
        | inl j => exact .int _
        | inr s => exact .str _
    · exact ⟨(get S' ρ' M' H' t' ok' g').1, by rw [hz, List.length_map]; exact Nat.le_refl _⟩) kx tk⟩
end
/-- an expression that reads a dict while it is locked -/
theorem we_lock {X : Cx} {Γ : List (Option D)} {S : List Cell} {Φ : D → List Cell → Prop} {Ξ : XP} {e : Expr} {l : Nat} {kvs : List (Key × D)} (hl : S[l]? = some (cK kvs)) (h : ∀ o kvV, WE X e Γ (S.set l (.frz o kvV kvs)) (fun d S' => S'[l]? = some (.frz o kvV kvs) ∧ Φ d (S'.set l (cK kvs))) noX) : WE X e Γ S Φ Ξ :=
  fun σ ρ M H Q W ok sl kv kx tk => PE.s (pe_lock (pe_s e)) (by
    have hlt : l < ρ.length := by rw [ok.len]; exact (List.getElem?_eq_some_iff.mp hl).1
    have ra : ρ[l]? = some ρ[l] := by simp [hlt]
    have rp : Rp (gd X) M ρ (.ref ρ[l]) (.ptr l) := .ptr ra
    obtain ⟨a, kvV, e1, q1, rk⟩ := (show DicK S (.ptr l) kvs from hl).at ok rp
    cases e1
    refine ⟨_, _, q1, trivial, fun od => ?_⟩
    obtain ⟨ok2, t2⟩ := ok.put (o := .frz od (.dK kvV)) (c' := .frz od kvV kvs) hl (by intro z; cases z) ra (.frz upd_same rk.ks rk.vs)
    refine h od kvV σ ρ M _ _ (fun _ _ _ _ => False) ok2 (t2.slots sl) (fun d S' v ρ' M' H' ⟨hl', p⟩ t3 ok3 r3 => ?_) kx_no takes0
    have ra' := t3.pre _ _ ra
    cases ok3.at_ l _ _ hl' ra' with
    | frz q n r =>
      refine ⟨q, ?_⟩
      have rk3 : RK (gd X) M' ρ' kvV kvs := ⟨n, r⟩
      obtain ⟨ok4, t4⟩ := ok3.put (o := .dK kvV) (c' := cK kvs) hl' (by intro z; cases z) ra' (rk3.cell upd_same)
      exact kv d _ v ρ' M' _ p ((t2.trans t3).trans t4) ok4 (t4.rp r3))
end Ab
set_option Elab.async false
set_option linter.all false
set_option maxRecDepth 100000
set_option maxHeartbeats 4000000
/-! Dict comprehensions; list comprehensions of two clauses. -/
namespace Ab
open PySem PySem.Spec PyProof.Rows L2
section
variable {X : Cx} {Γ : List (Option D)} {S : List Cell} {Ξ : XP} {kx vx elt tg iter tg1 iter1 : Expr} {ifs ifs1 : List Expr} {scope : Scope} {own : List (Str × Nat)} {pos : Pos} {g g1 : TG}
/-- what a dict comprehension wants, behind its source; keys: how a key looks -/
def DcI {κ : Type} [DecidableEq κ] (kd : κ → D) (X : Cx) (scope : Scope) (vs : List Nat) (g : TG) (ifs : List Expr) (kx vx : Expr) (Γ : List (Option D)) (ds : List D) (G : List Cell → Prop) (S1 : List Cell) (Φ : List (κ × D) → List Cell → Prop) : Prop :=
  ∃ I : Nat → List (κ × D) → List Cell → Prop, ds.length ≤ 1000000 ∧ I 0 [] S1 ∧ (∀ i acc S', i ≤ ds.length → I i acc S' → G S' ∧ acc.length ≤ i) ∧
    (∀ i x acc S', ds[i]? = some x → I i acc S' → ∃ Γ2, TgC (gd X) vs g x (wipeD Γ vs) Γ2 ∧ WTb X scope ifs Γ2 S' fun b S2 => if b = true then WEb X scope kx Γ2 S2 fun y S3 => WEb X scope vx Γ2 S3 fun z S4 => ∃ k, y = kd k ∧ I (i + 1) (putA acc k z) S4 else I (i + 1) acc S2) ∧
    (∀ acc S', I ds.length acc S' → Φ acc S')
theorem dc_run {vs : List Nat} {J : It} {ds : List D} {G : List Cell → Prop} {S1 : List Cell} {ρ1 : List Addr} {M1 H1 : Hp} {σ : L2.St} {Φ : List (Key × D) → List Cell → Prop} {Qd : V → Hp → Prop} (ok1 : Ok (gd X) S1 ρ1 M1 H1) (sl : Slots (gd X) M1 ρ1 σ Γ) (src : SrcOk (gd X) J ds G S1 ρ1 M1 H1) (h : DcI keyD X scope vs g ifs kx vx Γ ds G S1 Φ)
    (p : Addr) (hp : H1 p = none) (fin : ∀ acc vacc S' ρ' M' H', Φ acc S' → To' p S1 ρ1 M1 H1 S' ρ' M' H' → Ok (gd X) S' ρ' M' H' → H' p = some (.dK vacc) → RK (gd X) M' ρ' vacc acc → Qd (.ref p) H') :
    ∃ W : Nat → Nat → Hp → Prop, (∃ m, W 0 m (upd H1 p (.dK []))) ∧ ∀ i m H, W i m H →
      (J.stop i H ∧ Qd (.ref p) H) ∨ (J.go i H ∧ ∃ Nx : Hp → Prop, (∀ H', Nx H' → ∃ m', m' < m ∧ W (i + 1) m' H') ∧ ∀ x H', J.yld i H x H' → g x (L2.wipe σ vs) H' fun σ2 H2 => L2.wipe σ2 vs = L2.wipe σ vs ∧ ttOf X scope ifs σ2 H2 fun b H3 =>
        if b = true then teOf X scope kx σ2 H3 fun y H4 => teOf X scope vx σ2 H4 fun z H5 => ∃ kvs k, y = kV k ∧ H5 p = some (.dK kvs) ∧ kvs.length < sizeLine ∧ Nx (upd H5 p (.dK (putK kvs k z))) else Nx H3) := by
  obtain ⟨I, hz, h0, hst, hi, hd⟩ := h
  refine ⟨fun i m H' => m = ds.length - i ∧ i ≤ ds.length ∧ ∃ acc vacc S' ρ' M', I i acc S' ∧ To' p S1 ρ1 M1 H1 S' ρ' M' H' ∧ Ok (gd X) S' ρ' M' H' ∧ H' p = some (.dK vacc) ∧ RK (gd X) M' ρ' vacc acc,
    ⟨ds.length, rfl, Nat.zero_le _, [], [], S1, ρ1, M1, h0, To'.start ok1 hp, ok1.priv (Priv.new (H' := H1) ok1 hp), upd_same, RK.nil⟩, ?_⟩
  rintro i m H' ⟨rfl, hle, acc, vacc, S', ρ', M', hI, t', ok', ep, ra⟩
  obtain ⟨hG, hacc⟩ := hst i acc S' hle hI
  by_cases hlt : i < ds.length
  · refine .inr ⟨src.go i S' ρ' M' H' t'.up ok' hG hlt, fun H2 => i + 1 ≤ ds.length ∧ ∃ acc vacc S' ρ' M', I (i + 1) acc S' ∧ To' p S1 ρ1 M1 H1 S' ρ' M' H2 ∧ Ok (gd X) S' ρ' M' H2 ∧ H2 p = some (.dK vacc) ∧ RK (gd X) M' ρ' vacc acc, fun H2 ⟨hl2, q⟩ => ⟨ds.length - (i + 1), by omega, rfl, hl2, q⟩, fun x H2 y => ?_⟩
    obtain ⟨d, M2, ed, ty, oky, rx⟩ := src.yld i S' ρ' M' H' x H2 t'.up ok' hG hlt y
    obtain ⟨t2, e2⟩ := t'.step hp ⟨_, ep⟩ ty
    obtain ⟨Γ2, hg, ht⟩ := hi i d acc S' ed hI
    refine hg M2 H2 ρ' (L2.wipe σ vs) x _ oky.sub (((t2.to).slots sl).wipe vs) rx fun σ2 sl2 ew => ⟨ew.trans (wipe_wipe vs vs σ fun _ h => h), ?_⟩
    refine wtb_run ht oky sl2 fun b S3 ρ3 M3 H3 h3 t3 ok3 => ?_
    obtain ⟨t4, e4⟩ := t2.step hp ⟨_, e2.trans ep⟩ t3
    have e3 : H3 p = some (.dK vacc) := by rw [e4, e2, ep]
    have ra3 := (ra.mono ty.pm ty.pre).mono t3.pm t3.pre
    cases b with
    | false =>
      show i + 1 ≤ ds.length ∧ _
      exact ⟨hlt, acc, vacc, S3, ρ3, M3, h3, t4, ok3, e3, ra3⟩
    | true =>
      refine web_run (show WEb X scope kx Γ2 S3 _ from h3) ok3 (t3.slots sl2) fun y S4 vy ρ4 M4 H4 h5 t5 ok5 ry => ?_
      obtain ⟨t6, e6⟩ := t4.step hp ⟨_, e3⟩ t5
      have e5 : H4 p = some (.dK vacc) := by rw [e6, e3]
      refine web_run (show WEb X scope vx Γ2 S4 _ from h5) ok5 (t5.slots (t3.slots sl2)) fun z S5 vz ρ5 M5 H5 ⟨k, ek, h7⟩ t7 ok7 rz => ?_
      obtain ⟨t8, e8⟩ := t6.step hp ⟨_, e5⟩ t7
      have e7 : H5 p = some (.dK vacc) := by rw [e8, e5]
      subst ek
      have rv := ((ra3.mono t5.pm t5.pre).mono t7.pm t7.pre).put k rz
      have hlen : vacc.length < sizeLine := by rw [ra.length]; exact Nat.lt_of_le_of_lt hacc (Nat.lt_of_lt_of_le hlt (Nat.le_trans hz (by decide)))
      exact ⟨vacc, k, key_of_rp ry, e7, hlen, hlt, putA acc k z, putK vacc k vz, S5, ρ5, M5, h7, t8.put hp, t8.ok ok7, upd_same, rv⟩
  · have e : i = ds.length := by omega
    subst e
    exact .inl ⟨src.stop S' ρ' M' H' t'.up ok' hG, fin acc vacc S' ρ' M' H' (hd acc S' hI) t' ok' ep ra⟩
/-- .. a dict that stands for good -/
theorem we_dcF {Φ : D → List Cell → Prop} (hc : X.calm = true) (hN : X.N.Nodup) (ok : BlkOk X.N X.env.scope scope own) (hg : ∀ (s : Shared) (H : Hp) (C : Addr) (cl : List (Str × Addr)) (fp : List Addr), PG (X.blk s H scope (compEnvC scope cl C X.env) fp) tg g)
    (h : WI X tg iter Γ S (fun ds G S1 => DcI keyD X scope (own.map fun q => q.2) g ifs kx vx Γ ds G S1 fun acc S' => Φ (dK acc) S') Ξ) (hif : ifs.length ≤ 1 := by decide) (hs : ∀ x, foldedSetIterable iter X.env x = pure x := by intro _; rfl) : WE X (.DictComp kx vx [⟨tg, iter, ifs, 0⟩] scope pos) Γ S Φ Ξ :=
  fun σ ρ M H Q W okS sl kv kx tk => by
    obtain ⟨wi, hwi, hr⟩ := h
    refine PE.s (pe_dc hc hN hwi ok hg (pts_of hif) pe_of pe_of hs) (hr σ ρ M H _ W okS sl (fun J ds G S1 ρ1 M1 H1 hL t1 ok1 src => ?_) kx tk)
    intro p hp
    refine dc_run ok1 (t1.slots sl) src hL p hp fun acc vacc S' ρ' M' H' hΦ t' ok' ep ra => ?_
    obtain ⟨t2, ok2, sm⟩ := t'.keep hp ok' ep
    exact kv _ S' _ ρ' _ H' hΦ (t1.trans t2) ok2 ((ra.mono sm (fun _ _ h => h)).rp upd_same)
/-- .. a cell -/
theorem we_dcC {Φ : D → List Cell → Prop} (hc : X.calm = true) (hN : X.N.Nodup) (ok : BlkOk X.N X.env.scope scope own) (hg : ∀ (s : Shared) (H : Hp) (C : Addr) (cl : List (Str × Addr)) (fp : List Addr), PG (X.blk s H scope (compEnvC scope cl C X.env) fp) tg g)
    (h : WI X tg iter Γ S (fun ds G S1 => DcI keyD X scope (own.map fun q => q.2) g ifs kx vx Γ ds G S1 fun acc S' => Φ (.ptr S'.length) (S' ++ [cK acc])) Ξ) (hif : ifs.length ≤ 1 := by decide) (hs : ∀ x, foldedSetIterable iter X.env x = pure x := by intro _; rfl) : WE X (.DictComp kx vx [⟨tg, iter, ifs, 0⟩] scope pos) Γ S Φ Ξ :=
  fun σ ρ M H Q W okS sl kv kx tk => by
    obtain ⟨wi, hwi, hr⟩ := h
    refine PE.s (pe_dc hc hN hwi ok hg (pts_of hif) pe_of pe_of hs) (hr σ ρ M H _ W okS sl (fun J ds G S1 ρ1 M1 H1 hL t1 ok1 src => ?_) kx tk)
    intro p hp
    refine dc_run ok1 (t1.slots sl) src hL p hp fun acc vacc S' ρ' M' H' hΦ t' ok' ep ra => ?_
    have pre : ∀ (l : Nat) (a : Addr), ρ'[l]? = some a → (ρ' ++ [p])[l]? = some a := fun l a h => by
      rw [List.getElem?_append_left (List.getElem?_eq_some_iff.mp h).1]
      exact h
    obtain ⟨t2, ok2⟩ := t'.cell hp ok' (c := cK acc) ((ra.mono (fun _ _ h => h) pre).cell ep)
    exact kv _ _ _ _ _ H' hΦ (t1.trans t2) ok2 (.ptr (by rw [← ok'.len]; simp))

/-! ### two clauses -/
def sI (X : Cx) (tg iter : Expr) : TI := fun σ H R => ∀ (pins : List (Addr × Obj)) (s : Shared), Inv X pins σ H s → wpAny (model X.prog X.w) X.A (eval iter X.env) (fun v s1 => wpAny (model X.prog X.w) X.A (pyIter v) (PIE X pins σ tg R) X.xe s1) X.xe s
def siOf (X : Cx) (scope : Scope) (tg iter : Expr) : TI := fun σ H R => ∀ (s : Shared) (H0 : Hp) (C : Addr) (cl : List (Str × Addr)) (fp : List Addr), sI (X.blk s H0 scope (compEnvC scope cl C X.env) fp) tg iter σ H R
theorem pi_of {X : Cx} {scope : Scope} {tg e : Expr} : ∀ (s : Shared) (H0 : Hp) (C : Addr) (cl : List (Str × Addr)) (fp : List Addr), PI (X.blk s H0 scope (compEnvC scope cl C X.env) fp) tg e (siOf X scope tg e) := fun s H0 C cl fp => ⟨fun pins s' σ H R I h => h s H0 C cl fp pins s' I⟩
def WIb (X : Cx) (scope : Scope) (tg iter : Expr) (Γ : List (Option D)) (S : List Cell) (Φ : List D → (List Cell → Prop) → List Cell → Prop) : Prop :=
  ∀ (s : Shared) (H0 : Hp) (C : Addr) (cl : List (Str × Addr)) (fp : List Addr), WI (X.blk s H0 scope (compEnvC scope cl C X.env) fp) tg iter Γ S Φ noX
theorem wib_run {Φ : List D → (List Cell → Prop) → List Cell → Prop} (h : WIb X scope tg iter Γ S Φ) {σ : L2.St} {ρ : List Addr} {M H : Hp} {R : It → Hp → Prop} (ok : Ok (gd X) S ρ M H) (sl : Slots (gd X) M ρ σ Γ)
    (k : ∀ J ds G S' ρ' M' H', Φ ds G S' → To S ρ M H S' ρ' M' H' → Ok (gd X) S' ρ' M' H' → SrcOk (gd X) J ds G S' ρ' M' H' → R J H') : siOf X scope tg iter σ H R :=
  fun s H0 C cl fp pins s' I => by
    obtain ⟨wi, hwi, hr⟩ := h s H0 C cl fp
    exact hwi.run pins s' σ H R I (hr σ ρ M H R (fun _ _ _ _ => False) ok sl k kx_no takes0)
/-- the inner loop's wish -/
def Lc1 (X : Cx) (scope : Scope) (vs1 : List Nat) (g1 : TG) (ifs1 : List Expr) (elt : Expr) (Γ : List (Option D)) (acc0 : List D) (ds : List D) (G : List Cell → Prop) (S1 : List Cell) (Φ : List D → List Cell → Prop) : Prop :=
  ∃ I : Nat → List D → List Cell → Prop, ds.length ≤ 1000000 ∧ I 0 acc0 S1 ∧ (∀ i acc S', i ≤ ds.length → I i acc S' → G S' ∧ acc.length ≤ 1000000) ∧
    (∀ i x acc S', ds[i]? = some x → I i acc S' → ∃ Γ2, TgC (gd X) vs1 g1 x (wipeD Γ vs1) Γ2 ∧ WTb X scope ifs1 Γ2 S' fun b S2 => if b = true then WEb X scope elt Γ2 S2 fun y S3 => I (i + 1) (acc ++ [y]) S3 else I (i + 1) acc S2) ∧
    (∀ acc S', I ds.length acc S' → Φ acc S')
def Lc2 (X : Cx) (scope : Scope) (vs vs1 : List Nat) (g : TG) (ifs : List Expr) (tg1 iter1 : Expr) (g1 : TG) (ifs1 : List Expr) (elt : Expr) (Γ : List (Option D)) (ds : List D) (G : List Cell → Prop) (S1 : List Cell) (Φ : List D → List Cell → Prop) : Prop :=
  ∃ I : Nat → List D → List Cell → Prop, ds.length ≤ 1000000 ∧ I 0 [] S1 ∧ (∀ i acc S', i ≤ ds.length → I i acc S' → G S') ∧
    (∀ i x acc S', ds[i]? = some x → I i acc S' → ∃ Γ2, TgC (gd X) vs g x (wipeD Γ vs) Γ2 ∧ WTb X scope ifs Γ2 S' fun b S2 => if b = true then WIb X scope tg1 iter1 Γ2 S2 fun ds1 G1 S3 => Lc1 X scope vs1 g1 ifs1 elt Γ2 acc ds1 G1 S3 fun acc' S4 => I (i + 1) acc' S4 else I (i + 1) acc S2) ∧
    (∀ acc S', I ds.length acc S' → Φ acc S')
theorem lc2_run {vs vs1 : List Nat} {J : It} {ds : List D} {G : List Cell → Prop} {S1 : List Cell} {ρ1 : List Addr} {M1 H1 : Hp} {σ : L2.St} {Φ : List D → List Cell → Prop} {Qd : V → Hp → Prop} (ok1 : Ok (gd X) S1 ρ1 M1 H1) (sl1 : Slots (gd X) M1 ρ1 σ Γ) (src : SrcOk (gd X) J ds G S1 ρ1 M1 H1) (hL : Lc2 X scope vs vs1 g ifs tg1 iter1 g1 ifs1 elt Γ ds G S1 Φ)
    (p : Addr) (hp : H1 p = none) (fin : ∀ acc vacc S' ρ' M' H', Φ acc S' → To' p S1 ρ1 M1 H1 S' ρ' M' H' → Ok (gd X) S' ρ' M' H' → H' p = some (.lst vacc) → Rps (gd X) M' ρ' vacc acc → Qd (.ref p) H') :
    ∃ W : Nat → Nat → Hp → Prop, (∃ m, W 0 m (upd H1 p (.lst []))) ∧ ∀ i m H, W i m H →
      (J.stop i H ∧ Qd (.ref p) H) ∨ (J.go i H ∧ ∃ Nx : Hp → Prop, (∀ H', Nx H' → ∃ m', m' < m ∧ W (i + 1) m' H') ∧ ∀ x H', J.yld i H x H' → g x (L2.wipe σ vs) H' fun σ2 H2 => L2.wipe σ2 vs = L2.wipe σ vs ∧ ttOf X scope ifs σ2 H2 fun b H3 =>
        if b = true then siOf X scope tg1 iter1 σ2 H3 fun J1 H4 => ∃ W1 : Nat → Nat → Hp → Prop, (∃ m, W1 0 m H4) ∧ ∀ j k H, W1 j k H →
          (J1.stop j H ∧ Nx H) ∨ (J1.go j H ∧ ∃ Nx1 : Hp → Prop, (∀ H', Nx1 H' → ∃ k', k' < k ∧ W1 (j + 1) k' H') ∧ ∀ x H', J1.yld j H x H' → g1 x (L2.wipe σ2 vs1) H' fun σ3 H5 => L2.wipe σ3 vs1 = L2.wipe σ2 vs1 ∧ ttOf X scope ifs1 σ3 H5 fun b H6 =>
            if b = true then teOf X scope elt σ3 H6 fun y H7 => ∃ acc, H7 p = some (.lst acc) ∧ acc.length < sizeLine ∧ Nx1 (upd H7 p (.lst (acc ++ [y]))) else Nx1 H6)
        else Nx H3) := by
  obtain ⟨I, hz, h0, hst, hi, hd⟩ := hL
  refine ⟨fun i m H' => m = ds.length - i ∧ i ≤ ds.length ∧ ∃ acc vacc S' ρ' M', I i acc S' ∧ To' p S1 ρ1 M1 H1 S' ρ' M' H' ∧ Ok (gd X) S' ρ' M' H' ∧ H' p = some (.lst vacc) ∧ Rps (gd X) M' ρ' vacc acc,
    ⟨ds.length, rfl, Nat.zero_le _, [], [], S1, ρ1, M1, h0, To'.start ok1 hp, ok1.priv (Priv.new (H' := H1) ok1 hp), upd_same, .nil⟩, ?_⟩
  rintro i m H' ⟨rfl, hle, acc, vacc, S', ρ', M', hI, t', ok', ep, ra⟩
  have hG := hst i acc S' hle hI
  by_cases hlt : i < ds.length
  · refine .inr ⟨src.go i S' ρ' M' H' t'.up ok' hG hlt, fun H2 => i + 1 ≤ ds.length ∧ ∃ acc vacc S' ρ' M', I (i + 1) acc S' ∧ To' p S1 ρ1 M1 H1 S' ρ' M' H2 ∧ Ok (gd X) S' ρ' M' H2 ∧ H2 p = some (.lst vacc) ∧ Rps (gd X) M' ρ' vacc acc, fun H2 ⟨hl2, q⟩ => ⟨ds.length - (i + 1), by omega, rfl, hl2, q⟩, fun x H2 y => ?_⟩
    obtain ⟨d, M2, ed, ty, oky, rx⟩ := src.yld i S' ρ' M' H' x H2 t'.up ok' hG hlt y
    obtain ⟨t2, e2⟩ := t'.step hp ⟨_, ep⟩ ty
    obtain ⟨Γ2, hgx, ht⟩ := hi i d acc S' ed hI
    refine hgx M2 H2 ρ' (L2.wipe σ vs) x _ oky.sub (((t2.to).slots sl1).wipe _) rx fun σ2 sl2 ew => ?_
    refine ⟨ew.trans (wipe_wipe _ _ σ fun _ h => h), ?_⟩
    refine wtb_run ht oky sl2 fun b S3 ρ3 M3 H3 h3 t3 ok3 => ?_
    obtain ⟨t4, e4⟩ := t2.step hp ⟨_, e2.trans ep⟩ t3
    have e3 : H3 p = some (.lst vacc) := by rw [e4, e2, ep]
    have ra3 := t3.rps (ty.rps ra)
    have sl3 := t3.slots sl2
    cases b with
    | false =>
      show i + 1 ≤ ds.length ∧ _
      exact ⟨hlt, acc, vacc, S3, ρ3, M3, h3, t4, ok3, e3, ra3⟩
    | true =>
      refine wib_run (show WIb X scope tg1 iter1 Γ2 S3 _ from h3) ok3 sl3 fun J1 ds1 G1 S4 ρ4 M4 H4 hL1 t5 ok5 src1 => ?_
      obtain ⟨t6, e6⟩ := t4.step hp ⟨_, e3⟩ t5
      have e5 : H4 p = some (.lst vacc) := by rw [e6, e3]
      have ra4 := t5.rps ra3
      have sl4 := t5.slots sl3
      obtain ⟨I1, hz1, h01, hst1, hi1, hd1⟩ := hL1
      refine ⟨fun j k H' => k = ds1.length - j ∧ j ≤ ds1.length ∧ ∃ acc vacc S' ρ' M', I1 j acc S' ∧ Up ρ4 M4 ρ' M' ∧ To' p S1 ρ1 M1 H1 S' ρ' M' H' ∧ Ok (gd X) S' ρ' M' H' ∧ H' p = some (.lst vacc) ∧ Rps (gd X) M' ρ' vacc acc,
        ⟨ds1.length, rfl, Nat.zero_le _, acc, vacc, S4, ρ4, M4, h01, Up.refl, t6, ok5, e5, ra4⟩, ?_⟩
      rintro j k H' ⟨rfl, hle1, acc1, vacc1, S', ρ', M', hI1, u', t', ok', ep1, ra1⟩
      obtain ⟨hG1, hacc1⟩ := hst1 j acc1 S' hle1 hI1
      by_cases hlt1 : j < ds1.length
      · refine .inr ⟨src1.go j S' ρ' M' H' u' ok' hG1 hlt1, fun H2 => j + 1 ≤ ds1.length ∧ ∃ acc vacc S' ρ' M', I1 (j + 1) acc S' ∧ Up ρ4 M4 ρ' M' ∧ To' p S1 ρ1 M1 H1 S' ρ' M' H2 ∧ Ok (gd X) S' ρ' M' H2 ∧ H2 p = some (.lst vacc) ∧ Rps (gd X) M' ρ' vacc acc, fun H2 ⟨hl2, q⟩ => ⟨ds1.length - (j + 1), by omega, rfl, hl2, q⟩, fun x H2 y => ?_⟩
        obtain ⟨d, M2, ed, ty, oky, rx⟩ := src1.yld j S' ρ' M' H' x H2 u' ok' hG1 hlt1 y
        obtain ⟨t2, e2⟩ := t'.step hp ⟨_, ep1⟩ ty
        obtain ⟨Γ3, hgx, ht⟩ := hi1 j d acc1 S' ed hI1
        have u2 := u'.trans ty.up
        have slx : Slots (gd X) M2 ρ' σ2 Γ2 := ⟨sl4.len, fun i d e => let ⟨v, e1, r⟩ := sl4.at_ i d e; ⟨v, e1, u2.rp r⟩⟩
        refine hgx M2 H2 ρ' (L2.wipe σ2 vs1) x _ oky.sub (slx.wipe vs1) rx fun σ3 sl3 ew => ?_
        refine ⟨ew.trans (wipe_wipe _ _ σ2 fun _ h => h), ?_⟩
        refine wtb_run ht oky sl3 fun b S5 ρ5 M5 H5 h5 t7 ok7 => ?_
        obtain ⟨t8, e8⟩ := t2.step hp ⟨_, e2.trans ep1⟩ t7
        have e7 : H5 p = some (.lst vacc1) := by rw [e8, e2, ep1]
        have ra5 := t7.rps (ty.rps ra1)
        cases b with
        | false =>
          show j + 1 ≤ ds1.length ∧ _
          exact ⟨hlt1, acc1, vacc1, S5, ρ5, M5, h5, u2.trans t7.up, t8, ok7, e7, ra5⟩
        | true =>
          refine web_run (show WEb X scope elt Γ3 S5 _ from h5) ok7 (t7.slots sl3) fun y S6 vy ρ6 M6 H6 h7 t9 ok9 ry => ?_
          obtain ⟨t10, e10⟩ := t8.step hp ⟨_, e7⟩ t9
          have e9 : H6 p = some (.lst vacc1) := by rw [e10, e7]
          have hlen : vacc1.length < sizeLine := by rw [ra1.length]; exact Nat.lt_of_le_of_lt hacc1 (by decide)
          exact ⟨vacc1, e9, hlen, hlt1, acc1 ++ [y], vacc1 ++ [vy], S6, ρ6, M6, h7, (u2.trans t7.up).trans t9.up, t10.put hp, t10.ok ok9, upd_same, (t9.rps ra5).append (.cons ry .nil)⟩
      · have e : j = ds1.length := by omega
        subst e
        exact .inl ⟨src1.stop S' ρ' M' H' u' ok' hG1, hlt, acc1, vacc1, S', ρ', M', hd1 acc1 S' hI1, t', ok', ep1, ra1⟩
  · have e : i = ds.length := by omega
    subst e
    exact .inl ⟨src.stop S' ρ' M' H' t'.up ok' hG, fin acc vacc S' ρ' M' H' (hd acc S' hI) t' ok' ep ra⟩
theorem we_lc2 {Φ : D → List Cell → Prop} {vs1 : List Nat} (hc : X.calm = true) (hN : X.N.Nodup) (ok : BlkOk X.N X.env.scope scope own) (hv : ∀ i ∈ vs1, i ∈ own.map (·.2)) (hg : ∀ (s : Shared) (H : Hp) (C : Addr) (cl : List (Str × Addr)) (fp : List Addr), PG (X.blk s H scope (compEnvC scope cl C X.env) fp) tg g)
    (hg1 : ∀ (s : Shared) (H : Hp) (C : Addr) (cl : List (Str × Addr)) (fp : List Addr), PG (X.blk s H scope (compEnvC scope cl C X.env) fp) tg1 g1)
    (h : WI X tg iter Γ S (fun ds G S1 => Lc2 X scope (own.map fun q => q.2) vs1 g ifs tg1 iter1 g1 ifs1 elt Γ ds G S1 fun acc S' => Φ (.lst acc) S') Ξ) (hif : ifs.length ≤ 1 := by decide) (hif1 : ifs1.length ≤ 1 := by decide)
    (hs : ∀ x, foldedSetIterable iter X.env x = pure x := by intro _; rfl) (hs1 : ∀ env x, foldedSetIterable iter1 env x = pure x := by intro _ _; rfl) : WE X (.ListComp elt [⟨tg, iter, ifs, 0⟩, ⟨tg1, iter1, ifs1, 0⟩] scope pos) Γ S Φ Ξ :=
  fun σ ρ M H Q W okS sl kv kx tk => by
    obtain ⟨wi, hwi, hr⟩ := h
    refine PE.s (pe_lc2 hc hN hwi ok hv hg (pts_of hif) pi_of hg1 (pts_of hif1) pe_of hs hs1) (hr σ ρ M H _ W okS sl (fun J ds G S1 ρ1 M1 H1 hL t1 ok1 src => ?_) kx tk)
    intro p hp
    refine lc2_run ok1 (t1.slots sl) src hL p hp fun acc vacc S' ρ' M' H' hΦ t' ok' ep ra => ?_
    obtain ⟨t2, ok2, sm⟩ := t'.keep hp ok' ep
    exact kv _ S' _ ρ' _ H' hΦ (t1.trans t2) ok2 (.lst (SqL.of upd_same) (Rps.mono sm (fun _ _ h => h) acc vacc ra))
theorem ws_lc2 {P : Post} {i : Nat} {y : Str} {py spos : Pos} {vs1 : List Nat} (hc : X.calm = true) (hN : X.N.Nodup) (ok : BlkOk X.N X.env.scope scope own) (hv : ∀ i ∈ vs1, i ∈ own.map (·.2)) (hg : ∀ (s : Shared) (H : Hp) (C : Addr) (cl : List (Str × Addr)) (fp : List Addr), PG (X.blk s H scope (compEnvC scope cl C X.env) fp) tg g)
    (hg1 : ∀ (s : Shared) (H : Hp) (C : Addr) (cl : List (Str × Addr)) (fp : List Addr), PG (X.blk s H scope (compEnvC scope cl C X.env) fp) tg1 g1)
    (h : WI X tg iter Γ S (fun ds G S1 => Lc2 X scope (own.map fun q => q.2) vs1 g ifs tg1 iter1 g1 ifs1 elt Γ ds G S1 fun acc S' => P.nx (Γ.set i (some (.lst acc))) S') P.ex) (hy : X.N[i]? = some y := by rfl) (hyl : X.env.scope.names.lookup y = some .local := by rfl)
    (hsw : swapsWith (.ListComp elt [⟨tg, iter, ifs, 0⟩, ⟨tg1, iter1, ifs1, 0⟩] scope pos) (some (.Name y py)) spos.line X.env = pure true := by exact sw_true rfl rfl rfl (by decide +kernel)) (hif : ifs.length ≤ 1 := by decide) (hif1 : ifs1.length ≤ 1 := by decide)
    (hs : ∀ x, foldedSetIterable iter X.env x = pure x := by intro _; rfl) (hs1 : ∀ env x, foldedSetIterable iter1 env x = pure x := by intro _ _; rfl) : WS X (.Assign [.Name y py] (.ListComp elt [⟨tg, iter, ifs, 0⟩, ⟨tg1, iter1, ifs1, 0⟩] scope pos) spos) Γ S P :=
  fun σ ρ M H E okS sl sat => by
    obtain ⟨W, kx, tk⟩ := sat.ex
    obtain ⟨wi, hwi, hr⟩ := h
    refine PS.s (ps_setLc2 hc hN hy hyl hsw hwi ok hv hg (pts_of hif) pi_of hg1 (pts_of hif1) pe_of hs hs1) (hr σ ρ M H _ W okS sl (fun J ds G S1 ρ1 M1 H1 hL t1 ok1 src => ?_) kx tk)
    intro p hp
    refine lc2_run (Qd := fun x H1 => gName i x σ H1 E.nx) ok1 (t1.slots sl) src hL p hp fun acc vacc S' ρ' M' H' hΦ t' ok' ep ra => ?_
    obtain ⟨t2, ok2, sm⟩ := t'.keep hp ok' ep
    exact sat.nx _ S' _ ρ' _ H' hΦ (t1.trans t2) ok2 (((t1.trans t2).slots sl).set (.lst (SqL.of upd_same) (Rps.mono sm (fun _ _ h => h) acc vacc ra)) i)
end
end Ab
set_option Elab.async false
set_option linter.all false
set_option maxRecDepth 100000
set_option maxHeartbeats 4000000
/-! Dicts with tuples of tuples as keys. -/
namespace Ab
open PySem PySem.Spec PyProof.Rows L2
abbrev NK := NestedKey
abbrev dN (kvs : List (NK × D)) : D := .dic true (kvs.map fun p => nkD p.1) (kvs.map fun p => p.2)
/-- the entries as they stand and as they are told -/
structure RN (g : Gd) (M : Hp) (ρ : List Addr) (xs : List (NK × Addr × Value)) (uv : List V) (kvs : List (NK × D)) : Prop where
  ks : xs.map (fun x => x.1) = kvs.map (fun p => p.1)
  kr : Rps g M ρ (xs.map fun x => V.ref x.2.1) (kvs.map fun p => nkD p.1)
  vv : Vals uv (xs.map fun x => x.2.2)
  vr : Rps g M ρ uv (kvs.map fun p => p.2)
section
variable {g : Gd} {M M' H : Hp} {ρ ρ' : List Addr} {xs : List (NK × Addr × Value)} {uv : List V} {kvs : List (NK × D)}
theorem RN.mono (h : RN g M ρ xs uv kvs) (hm : Same M M') (hr : ∀ (l : Nat) (a : Addr), ρ[l]? = some a → ρ'[l]? = some a) : RN g M' ρ' xs uv kvs := ⟨h.ks, Rps.mono hm hr _ _ h.kr, h.vv, Rps.mono hm hr _ _ h.vr⟩
theorem RN.length (h : RN g M ρ xs uv kvs) : xs.length = kvs.length := by
  have := congrArg List.length h.ks
  simpa using this
mutual
theorem key_nested {X : Cx} {pins : List (Addr × Obj)} {σ : L2.St} {H : Hp} {s : Shared} {M : Hp} {ρ : List Addr} (I : Inv X pins σ H s) (sm : Same M H) : ∀ (k : NK) (v : V) (u : Value), Rp (gd X) M ρ v (nkD k) → RelV v u → NestedIs s.heap k u
  | .none, _, _, r, q => by
    cases r
    cases (show _ = Value.none from q)
    exact .none
  | .num i, _, _, r, q => by
    cases r
    obtain ⟨t, e⟩ := (show ∃ t, _ = Value.int i t from q)
    rw [e]
    exact .int i t
  | .text x, _, _, r, q => by
    cases r
    obtain ⟨t, e⟩ := (show ∃ t, _ = Value.str x t from q)
    rw [e]
    exact .text x t
  | .tup ks, _, _, r, q => by
    obtain ⟨a, vs, e, sq, rs⟩ := rp_tup r
    subst e
    cases (show _ = Value.ref a from q)
    obtain ⟨its, rv, ⟨o, ho, hc, n, hd⟩, _⟩ := I.tuple (seqT sm sq)
    exact .tup ho hc hd (by simpa using keys_nested I sm ks vs its rs rv)
theorem keys_nested {X : Cx} {pins : List (Addr × Obj)} {σ : L2.St} {H : Hp} {s : Shared} {M : Hp} {ρ : List Addr} (I : Inv X pins σ H s) (sm : Same M H) : ∀ (ks : List NK) (vs : List V) (us : List Value), Rps (gd X) M ρ vs (nkDs ks) → Vals vs us → NestedAll s.heap ks us
  | [], _, _, r, q => by
    cases r
    cases q
    exact .nil
  | k :: ks, _, _, r, q => by
    cases r with
    | cons r1 r2 =>
      cases q with
      | cons q1 q2 => exact .cons (key_nested I sm k _ _ r1 q1) (keys_nested I sm ks _ _ r2 q2)
end
theorem all_nested {X : Cx} {pins : List (Addr × Obj)} {σ : L2.St} {H : Hp} {s : Shared} (I : Inv X pins σ H s) (sm : Same M H) : ∀ {xs : List (NK × Addr × Value)} {ks : List NK}, xs.map (fun x => x.1) = ks → Rps (gd X) M ρ (xs.map fun x => V.ref x.2.1) (ks.map nkD) → ∀ x ∈ xs, NestedIs s.heap x.1 (.ref x.2.1)
  | [], _, _, _, _, h => by cases h
  | x :: xs, [], e, _, _, _ => by cases e
  | x :: xs, k :: ks, e, r, y, hy => by
    simp only [List.map_cons, List.cons.injEq] at e
    obtain ⟨e1, e2⟩ := e
    subst e1
    cases r with
    | cons r1 r2 =>
      rcases List.mem_cons.mp hy with e | hy
      · subst e
        exact key_nested I sm _ _ _ r1 rfl
      · exact all_nested I sm e2 r2 y hy
theorem RN.dict {X : Cx} {pins : List (Addr × Obj)} {σ : L2.St} {s : Shared} {d : Addr} (I : Inv X pins σ H s) (sm : Same M H) (h : RN (gd X) M ρ xs uv kvs) (e : H d = some (.ext (DicObj (gd X) d xs))) : s.heap.DictOfH (nestedKind X.prog X.w) d xs ∧ (d == sysModules) = false ∧ xs.length ≤ sizeLine ∧ (∀ x ∈ xs, x.1.depth ≤ 8) := by
  obtain ⟨⟨o, es, ep, h1, h2, h3, h4, h5, h6, h7, h8⟩, _, _⟩ := (show ObjOk X.prog X.w H s.heap d (.ext (DicObj (gd X) d xs)) from I.hok d _ e)
  have kr := h.kr
  have e2 : (kvs.map fun p => nkD p.1) = (kvs.map fun p => p.1).map nkD := by rw [List.map_map]; rfl
  rw [e2] at kr
  have al := all_nested I sm h.ks kr
  exact ⟨⟨o, es, ep, h1, h2, h3, h4, fun x hx => ⟨al x hx, h6 x hx⟩, h5⟩, h7, h8, h6⟩
/-- an entry, on both sides -/
theorem RN.get : ∀ {xs : List (NK × Addr × Value)} {uv : List V} {kvs : List (NK × D)}, RN g M ρ xs uv kvs → ∀ k : NK, (atKey xs k = none ∧ getA kvs k = none) ∨ ∃ p v d, atKey xs k = some p ∧ getA kvs k = some d ∧ RelV v p.2 ∧ Rp g M ρ v d
  | [], _, [], _, k => .inl ⟨rfl, rfl⟩
  | [], _, _ :: _, h, _ => by have := h.length; simp at this
  | _ :: _, _, [], h, _ => by have := h.length; simp at this
  | x :: xs, uv, q :: kvs, h, k => by
    obtain ⟨h1, h2, h3, h4⟩ := h
    simp only [List.map_cons, List.cons.injEq] at h1
    cases h2 with
    | cons a1 a2 =>
      generalize e5 : ((x :: xs).map fun x => x.2.2) = ys at h3
      cases h3 with
      | nil => cases e5
      | cons b1 b2 =>
        simp only [List.map_cons, List.cons.injEq] at e5
        obtain ⟨rfl, rfl⟩ := e5
        cases h4 with
        | cons c1 c2 =>
          unfold atKey getA
          by_cases hk : x.1 = k
          · have hk2 : q.1 = k := h1.1 ▸ hk
            simp only [List.find?_cons, hk, hk2, decide_true, Option.map_some]
            exact .inr ⟨_, _, _, rfl, rfl, b1, c1⟩
          · have hk2 : ¬ q.1 = k := h1.1 ▸ hk
            simp only [List.find?_cons, hk, hk2, decide_false]
            exact RN.get ⟨h1.2, a2, b2, c2⟩ k
theorem RN.put_old : ∀ {xs : List (NK × Addr × Value)} {uv : List V} {kvs : List (NK × D)}, RN g M ρ xs uv kvs → ∀ (k : NK) {v : V} {u : Value} {d : D}, RelV v u → Rp g M ρ v d → ∃ uv', RN g M ρ (xs.map (putAt k u)) uv' (kvs.map fun kv => if kv.1 = k then (kv.1, d) else kv)
  | [], uv, [], h, k, _, _, _, _, _ => ⟨uv, h⟩
  | [], _, _ :: _, h, _, _, _, _, _, _ => by have := h.length; simp at this
  | _ :: _, _, [], h, _, _, _, _, _, _ => by have := h.length; simp at this
  | x :: xs, uv, q :: kvs, h, k, v, u, d, rv, rd => by
    obtain ⟨h1, h2, h3, h4⟩ := h
    simp only [List.map_cons, List.cons.injEq] at h1
    cases h2 with
    | cons a1 a2 =>
      generalize e5 : ((x :: xs).map fun x => x.2.2) = ys at h3
      cases h3 with
      | nil => cases e5
      | @cons v0 _ uv0 _ b1 b2 =>
        simp only [List.map_cons, List.cons.injEq] at e5
        obtain ⟨rfl, rfl⟩ := e5
        cases h4 with
        | cons c1 c2 =>
          obtain ⟨uv', ih⟩ := RN.put_old (xs := xs) (kvs := kvs) ⟨h1.2, a2, b2, c2⟩ k rv rd
          by_cases hk : x.1 = k
          · have hk2 : q.1 = k := h1.1 ▸ hk
            refine ⟨v :: uv', ?_, ?_, ?_, ?_⟩
            · simp only [List.map_cons, putAt, if_pos hk, if_pos hk2, List.cons.injEq]
              exact ⟨h1.1, ih.ks⟩
            · simp only [List.map_cons, putAt, if_pos hk, if_pos hk2]
              exact .cons a1 ih.kr
            · simp only [List.map_cons, putAt, if_pos hk]
              exact .cons rv ih.vv
            · simp only [List.map_cons, if_pos hk2]
              exact .cons rd ih.vr
          · have hk2 : ¬ q.1 = k := h1.1 ▸ hk
            refine ⟨v0 :: uv', ?_, ?_, ?_, ?_⟩
            · simp only [List.map_cons, putAt, if_neg hk, if_neg hk2, List.cons.injEq]
              exact ⟨h1.1, ih.ks⟩
            · simp only [List.map_cons, putAt, if_neg hk, if_neg hk2]
              exact .cons a1 ih.kr
            · simp only [List.map_cons, putAt, if_neg hk]
              exact .cons b1 ih.vv
            · simp only [List.map_cons, if_neg hk2]
              exact .cons c1 ih.vr
theorem vals_snoc {vs : List V} {us : List Value} {v : V} {u : Value} (h : Vals vs us) (r : RelV v u) : Vals (vs ++ [v]) (us ++ [u]) := h.append (.cons r .nil)
theorem any_getA {κ α : Type} [DecidableEq κ] (kvs : List (κ × α)) (k : κ) : (kvs.any fun kv => decide (kv.1 = k)) = (getA kvs k).isSome := by
  induction kvs with
  | nil => rfl
  | cons q kvs ih =>
    unfold getA at ih ⊢
    by_cases hk : q.1 = k
    · simp [hk]
    · simp only [List.any_cons, hk, decide_false, Bool.false_or, List.find?_cons]
      exact ih
theorem RN.put (h : RN g M ρ xs uv kvs) (k : NK) {b : Addr} {v : V} {u : Value} {d : D} (kr : Rp g M ρ (.ref b) (nkD k)) (rv : RelV v u) (rd : Rp g M ρ v d) : ∃ uv', RN g M ρ (storedH xs k b u) uv' (putA kvs k d) := by
  unfold storedH putA
  rw [any_getA]
  rcases h.get k with ⟨e1, e2⟩ | ⟨p, v', d', e1, e2, _, _⟩
  · rw [e1, e2, if_neg (by simp), if_neg (by simp)]
    refine ⟨uv ++ [v], ?_, ?_, ?_, ?_⟩
    · simp only [List.map_append, h.ks, List.map_cons, List.map_nil]
    · rw [List.map_append, List.map_append]
      exact h.kr.append (.cons kr .nil)
    · rw [List.map_append]
      exact vals_snoc h.vv rv
    · rw [List.map_append]
      exact h.vr.append (.cons rd .nil)
  · rw [e1, e2, if_pos (by simp), if_pos (by simp)]
    exact h.put_old k rv rd
theorem storedH_len (xs : List (NK × Addr × Value)) (k : NK) (a : Addr) (v : Value) : (storedH xs k a v).length ≤ xs.length + 1 := by
  unfold storedH
  split
  · rw [List.length_map]; omega
  · simp
theorem storedH_dep {xs : List (NK × Addr × Value)} {k : NK} {a : Addr} {v : Value} (hd : k.depth ≤ 8) (h : ∀ x ∈ xs, x.1.depth ≤ 8) : ∀ x ∈ storedH xs k a v, x.1.depth ≤ 8 := by
  unfold storedH
  split
  · intro x hx
    obtain ⟨y, hy, rfl⟩ := List.mem_map.mp hx
    unfold putAt
    split
    · exact h y hy
    · exact h y hy
  · intro x hx
    rcases List.mem_append.mp hx with hx | hx
    · exact h x hx
    · have := List.mem_singleton.mp hx
      subst this
      exact hd
theorem RN.rp {d : Addr} (h : RN g M ρ xs uv kvs) (e : M d = some (.ext (DicObj g d xs))) : Rp g M ρ (.ref d) (dN kvs) := by
  have e2 : (xs.map fun x => nkD x.1) = kvs.map fun p => nkD p.1 := by
    have := congrArg (List.map nkD) h.ks
    rw [List.map_map, List.map_map] at this
    exact this
  have q := Rp.dic (g := g) (M := M) (ρ := ρ) e (.n xs uv h.vv) (ks := xs.map fun x => nkD x.1) (vs := kvs.map fun p => p.2) (by rw [e2]; exact h.kr) h.vr
  rw [e2] at q
  exact q
mutual
theorem nkD_inj : ∀ {a b : NK}, nkD a = nkD b → a = b
  | .none, .none, _ => rfl
  | .num i, .num j, h => by simp only [nkD, D.int.injEq] at h; rw [h]
  | .text i, .text j, h => by simp only [nkD, D.str.injEq] at h; rw [h]
  | .tup a, .tup b, h => by simp only [nkD, D.tup.injEq] at h; rw [nkDs_inj h]
  | .none, .num _, h => by simp [nkD] at h
  | .none, .text _, h => by simp [nkD] at h
  | .none, .tup _, h => by simp [nkD] at h
  | .num _, .none, h => by simp [nkD] at h
  | .num _, .text _, h => by simp [nkD] at h
  | .num _, .tup _, h => by simp [nkD] at h
  | .text _, .none, h => by simp [nkD] at h
  | .text _, .num _, h => by simp [nkD] at h
  | .text _, .tup _, h => by simp [nkD] at h
  | .tup _, .none, h => by simp [nkD] at h
  | .tup _, .num _, h => by simp [nkD] at h
  | .tup _, .text _, h => by simp [nkD] at h
theorem nkDs_inj : ∀ {a b : List NK}, nkDs a = nkDs b → a = b
  | [], [], _ => rfl
  | a :: as, b :: bs, h => by
    simp only [nkDs, List.cons.injEq] at h
    rw [nkD_inj h.1, nkDs_inj h.2]
  | [], _ :: _, h => by simp [nkDs] at h
  | _ :: _, [], h => by simp [nkDs] at h
end
theorem nks_inj : ∀ {a b : List NK}, a.map nkD = b.map nkD → a = b
  | [], [], _ => rfl
  | a :: as, b :: bs, h => by
    simp only [List.map_cons, List.cons.injEq] at h
    rw [nkD_inj h.1, nks_inj h.2]
  | [], _ :: _, h => by cases h
  | _ :: _, [], h => by cases h
theorem dN_inv {v : V} (r : Rp g M ρ v (dN kvs)) : ∃ a xs uv, v = .ref a ∧ M a = some (.ext (DicObj g a xs)) ∧ RN g M ρ xs uv kvs := by
  cases r with
  | dic ea o r1 r2 =>
    generalize e : (kvs.map fun p => nkD p.1) = ks at o r1
    cases o with
    | n xs uv hv =>
      refine ⟨_, xs, _, rfl, ea, ?_, ?_, hv, r2⟩
      · have e2 : (xs.map fun x => x.1).map nkD = (kvs.map fun p => p.1).map nkD := by
          rw [List.map_map, List.map_map]
          exact e.symm
        exact nks_inj e2
      · rw [e]; exact r1
end

/-! ### d[k], k in d -/
section
variable {X : Cx} {Γ : List (Option D)} {S : List Cell} {Φ : D → List Cell → Prop} {Ξ : XP} {o i : Expr} {pos : Pos}
/-- an operation as it runs -/
def rSem (X : Cx) (f : Value → Value → Sem Value) : R2 := fun x y H Q => ∀ (pins : List (Addr × Obj)) (s : Shared) (σ : L2.St) (v u : Value), Inv X pins σ H s → RelV x v → RelV y u → wpAny (model X.prog X.w) X.A (f v u) (EP X pins σ Q) X.xe s
theorem op_sem (f : Value → Value → Sem Value) : OpR X f (rSem X f) := fun pins s σ H x y v u Q I rx ry h => h pins s σ v u I rx ry
theorem tup_ref {g : Gd} {M : Hp} {ρ : List Addr} {v : V} {ks : List NK} (r : Rp g M ρ v (nkD (.tup ks))) : ∃ b, v = .ref b := by
  obtain ⟨a, _, e, _⟩ := rp_tup r
  exact ⟨a, e⟩
theorem we_nget (hu : X.A.units + 16 < cLine) (h : WE X o Γ S (fun x S1 => WE X i Γ S1 (fun y S2 => ∃ kvs ks d, x = dN kvs ∧ y = nkD (.tup ks) ∧ (NestedKey.tup ks).depth ≤ 8 ∧ getA kvs (NestedKey.tup ks) = some d ∧ Φ d S2) Ξ) Ξ) (hs : NoSl i := by intro _ _; rfl) : WE X (.Subscript o i pos) Γ S Φ Ξ :=
  fun σ ρ M H Q W ok sl kv kx tk pins s I => by
    refine subD_of PySem.F.slot_dict_getitem.lookup hs (thn ((pe_s o).run pins s σ H _ I (h σ ρ M H (fun vx H1 => sE X i σ H1 fun vy H2 => ∃ a b xs uv kvs ks v p M2 ρ2, vx = .ref a ∧ vy = .ref b ∧ Same M2 H2 ∧ H2 a = some (.ext (DicObj (gd X) a xs)) ∧ RN (gd X) M2 ρ2 xs uv kvs ∧ Rp (gd X) M2 ρ2 (.ref b) (nkD (.tup ks)) ∧ (NestedKey.tup ks).depth ≤ 8 ∧ atKey xs (NestedKey.tup ks) = some p ∧ RelV v p.2 ∧ Q v H2) W ok sl (fun x S1 vx ρ1 M1 H1 h1 t1 ok1 r1 => h1 σ ρ1 M1 H1 _ W ok1 (t1.slots sl) (fun y S2 vy ρ2 M2 H2 ⟨kvs, ks, d, ex, ey, hd, hg, q⟩ t2 ok2 r2 => ?_) (kx.to t1) tk) kx tk)) fun u s1 ⟨vx, H1, I1, rx, q1⟩ => thn ((pe_s i).run pins s1 σ H1 _ I1 q1) fun iv s2 ⟨vy, H2, I2, ry, a, b, xs, uv, kvs, ks, v, p, M2, ρ2, ex, ey, sm, ea, rn, rk, hd, hp, rv, q2⟩ => ?_)
    · subst ex ey
      obtain ⟨a, xs, uv, e1, ea, rn⟩ := dN_inv (t2.rp r1)
      obtain ⟨b, eb⟩ := tup_ref r2
      subst e1 eb
      rcases rn.get (.tup ks) with ⟨_, n⟩ | ⟨p, v, d', e3, e4, rv, rd⟩
      · rw [n] at hg; cases hg
      · rw [hg] at e4
        cases e4
        exact ⟨a, b, xs, uv, kvs, ks, v, p, M2, ρ2, rfl, rfl, ok2.sub, ok2.sub _ _ ea, rn, r2, hd, e3, rv, kv d S2 v ρ2 M2 H2 q (t1.trans t2) ok2 rd⟩
    · subst ex ey
      obtain rfl : u = Value.ref a := rx
      obtain rfl : iv = Value.ref b := ry
      obtain ⟨dd, hm, hz, hdp⟩ := rn.dict I2 sm ea
      have hk : (nestedKind X.prog X.w).is s2.heap (.tup ks) b := ⟨key_nested I2 sm _ _ _ rk rfl, hd⟩
      refine ⟨let ⟨oo, _, _, ho, hx, _⟩ := dd; ⟨oo, ho, hx.1⟩, wpAny_getItem_heap ?_ hk dd hp ⟨v, H2, I2.tok _, rv, q2⟩⟩
      show X.A.units + 1 + 8 < cLine
      omega
theorem nin_run {neg : Bool} {x y : D} (hu : X.A.units + 16 < cLine) {kvs : List (NK × D)} {ks : List NK} (ex : x = dN kvs) (ey : y = nkD (.tup ks)) (hd : (NestedKey.tup ks).depth ≤ 8) (h : Φ (.bl (if neg = true then !(getA kvs (NestedKey.tup ks)).isSome else (getA kvs (NestedKey.tup ks)).isSome)) S) :
    R2s (gd X) (rSem X (compareOp (if neg = true then .NotIn else .In))) y x S Φ := fun ρ M H vy vx Q ok ry rx kv pins s σ u v I ru rv => by
  subst ex ey
  obtain ⟨a, xs, uv, e1, ea, rn⟩ := dN_inv rx
  obtain ⟨b, eb⟩ := tup_ref ry
  subst e1 eb
  obtain rfl : v = Value.ref a := rv
  obtain rfl : u = Value.ref b := ru
  obtain ⟨dd, hm, hz, hdp⟩ := rn.dict I ok.sub (ok.sub _ _ ea)
  have hk : (nestedKind X.prog X.w).is s.heap (.tup ks) b := ⟨key_nested I ok.sub _ _ _ ry rfl, hd⟩
  have hr : (nestedKind X.prog X.w).room X.A.in1 := by
    show X.A.units + 1 + 8 < cLine
    omega
  have e3 : (atKey xs (NestedKey.tup ks)).isSome = (getA kvs (NestedKey.tup ks)).isSome := by
    rcases rn.get (.tup ks) with ⟨e1, e2⟩ | ⟨p, v, d', e1, e2, _, _⟩
    · rw [e1, e2]; rfl
    · rw [e1, e2]; rfl
  cases neg with
  | false =>
    rw [if_neg (by decide)] at h
    refine wpAny_in_heap hr hk hm dd ?_
    rw [e3]
    exact ⟨.bl (getA kvs (NestedKey.tup ks)).isSome, H, I.tok _, rfl, kv _ S _ ρ M H h .refl ok (.bl _)⟩
  | true =>
    rw [if_pos rfl] at h
    show wpAny (model X.prog X.w) X.A (do return Value.bool (!(← contains (.ref a) (.ref b))) : Sem Value) (EP X pins σ Q) X.xe s
    refine wpAny_bind (wpAny_contains_heap hr hk hm dd (wpAny_pure ?_))
    rw [e3]
    exact ⟨.bl (!(getA kvs (NestedKey.tup ks)).isSome), H, I.tok _, rfl, kv _ S _ ρ M H h .refl ok (.bl _)⟩
theorem wt_nin {ΦB : Bool → List Cell → Prop} (hu : X.A.units + 16 < cLine) (h : WE X i Γ S (fun y S1 => WE X o Γ S1 (fun x S2 => ∃ kvs ks, x = dN kvs ∧ y = nkD (.tup ks) ∧ (NestedKey.tup ks).depth ≤ 8 ∧ ΦB (getA kvs (NestedKey.tup ks)).isSome S2) Ξ) Ξ) (hb : behindInMarks .In o = false := by rfl) : WT X (.Compare i [.In] [o] pos) Γ S ΦB Ξ :=
  wt_cmp (op_sem (compareOp .In)) hb (h.imp fun y S1 h1 => h1.imp fun x S2 ⟨kvs, ks, ex, ey, hd, q⟩ => nin_run (neg := false) hu ex ey hd ⟨_, rfl, q⟩)
theorem wt_nnotin {ΦB : Bool → List Cell → Prop} (hu : X.A.units + 16 < cLine) (h : WE X i Γ S (fun y S1 => WE X o Γ S1 (fun x S2 => ∃ kvs ks, x = dN kvs ∧ y = nkD (.tup ks) ∧ (NestedKey.tup ks).depth ≤ 8 ∧ ΦB (!(getA kvs (NestedKey.tup ks)).isSome) S2) Ξ) Ξ) (hb : behindInMarks .NotIn o = false := by rfl) : WT X (.Compare i [.NotIn] [o] pos) Γ S ΦB Ξ :=
  wt_cmp (op_sem (compareOp .NotIn)) hb (h.imp fun y S1 h1 => h1.imp fun x S2 ⟨kvs, ks, ex, ey, hd, q⟩ => nin_run (neg := true) hu ex ey hd ⟨_, rfl, q⟩)
end
end Ab
set_option Elab.async false
set_option linter.all false
set_option maxRecDepth 100000
set_option maxHeartbeats 4000000
/-! {k: v for .. in ..}, the keys tuples of tuples. -/
namespace Ab
open PySem PySem.Spec PyProof.Rows L2
abbrev tbN (X : Cx) (p : Addr) (xs : List (NK × Addr × Value)) : HO := .ext (DicObj (gd X) p xs)
section
variable {X : Cx} {pins : List (Addr × Obj)} {σ : L2.St} {H : Hp} {s : Shared}
theorem tbN_ok {h : Heap} {p : Addr} {xs : List (NK × Addr × Value)} {w : World} {P : Program} {H : Hp} {g : Gd} (x : DicObj g p xs h) : ObjOk P w H h p (.ext (DicObj g p xs)) := by
  refine ⟨x, ?_, fun h1 h2 y k => ?_⟩
  · obtain ⟨o, _, _, ho, _⟩ := x
    exact ⟨o, ho⟩
  · obtain ⟨o, es, ep, ho, r⟩ := y
    exact ⟨o, es, ep, k o ho, r⟩
theorem nd_set {E : Value → Shared → Prop} {p b : Addr} {xs : List (NK × Addr × Value)} {k : NK} {r : Value} {Q : Unit → Shared → Prop} {M : Hp} {ρ : List Addr} {uv : List V} {kvs : List (NK × D)} (hu : X.A.units + 16 < cLine) (I : Inv X pins σ H s) (sm : Same M H) (rn : RN (gd X) M ρ xs uv kvs) (hp : H p = some (tbN X p xs))
    (kr : Rp (gd X) M ρ (.ref b) (nkD k)) (hd : k.depth ≤ 8) (hz : xs.length < sizeLine) (h : ∀ s', Inv X pins σ (upd H p (tbN X p (storedH xs k b r))) s' → Q () s') : wpAny (model X.prog X.w) X.A (dictSet p (.ref b) r) Q E s := by
  obtain ⟨dd, hm, hz', hdp⟩ := rn.dict I sm hp
  have hk : (nestedKind X.prog X.w).is s.heap k b := ⟨key_nested I sm _ _ _ kr rfl, hd⟩
  have hr : (nestedKind X.prog X.w).room X.A := by
    show X.A.units + 8 < cLine
    omega
  refine wpAny_dictSet_heap (hsz := hz') hr hk dd fun h' dd' hs => h _ ?_
  obtain ⟨o, es, ep, g1, g2, g3, g4, g5, g6⟩ := dd'
  refine d_write I (by rw [hp]; exact True.intro) hs ⟨o, g1⟩ (tbN_ok ⟨o, es, ep, g1, g2, g3, g4, g6, storedH_dep hd hdp, hm, ?_⟩)
  have := storedH_len xs k b r
  omega
/-- the reading of the comprehension -/
def tDcN (X : Cx) (wi : TI) (g : TG) (tt : TT) (tk tv : TE) (vs : List Nat) : TE := fun σ H Q => wi σ H fun J H1 => ∀ d0, H1 d0 = none → ∃ W : Nat → Nat → Hp → Prop, (∃ m, W 0 m (upd H1 d0 (tbN X d0 []))) ∧ ∀ i m H, W i m H →
  (J.stop i H ∧ Q (.ref d0) H) ∨ (J.go i H ∧ ∃ Nx : Hp → Prop, (∀ H', Nx H' → ∃ m', m' < m ∧ W (i + 1) m' H') ∧ ∀ x H', J.yld i H x H' → g x (L2.wipe σ vs) H' fun σ2 H2 => L2.wipe σ2 vs = L2.wipe σ vs ∧ tt σ2 H2 fun b H3 =>
    if b = true then tk σ2 H3 fun y H4 => tv σ2 H4 fun z H5 => ∃ (b : Addr) (k : NK) (xs : List (NK × Addr × Value)) (M : Hp) (ρ : List Addr) (uv : List V) (kvs : List (NK × D)), y = .ref b ∧ H5 d0 = some (tbN X d0 xs) ∧ Same M H5 ∧ RN (gd X) M ρ xs uv kvs ∧ Rp (gd X) M ρ (.ref b) (nkD k) ∧ k.depth ≤ 8 ∧ xs.length < sizeLine ∧ (∀ r, RelV z r → Nx (upd H5 d0 (tbN X d0 (storedH xs k b r)))) else Nx H3)
theorem dcN_core {pins : List (Addr × Obj)} {s : Shared} {σ : L2.St} {H : Hp} {Q : VK} {use : Option (Value → Sem Unit)} {Qf : Value → Shared → Prop} {pos' : Pos} {kx vx tg iter : Expr} {ifs : List Expr} {scope : Scope} {own : List (Str × Nat)} {pos : Pos} {wi : TI} {g : TG} {tt : TT} {tk tv : TE} (hu : X.A.units + 16 < cLine) (hc : X.calm = true) (hN : X.N.Nodup) (hi : PI X tg iter wi) (ok : BlkOk X.N X.env.scope scope own)
    (hg : ∀ (s : Shared) (H : Hp) (C : Addr) (cl : List (Str × Addr)) (fp : List Addr), PG (X.blk s H scope (compEnvC scope cl C X.env) fp) tg g)
    (ht : ∀ (s : Shared) (H : Hp) (C : Addr) (cl : List (Str × Addr)) (fp : List Addr), PTs (X.blk s H scope (compEnvC scope cl C X.env) fp) ifs tt)
    (hk : ∀ (s : Shared) (H : Hp) (C : Addr) (cl : List (Str × Addr)) (fp : List Addr), PE (X.blk s H scope (compEnvC scope cl C X.env) fp) kx tk)
    (he : ∀ (s : Shared) (H : Hp) (C : Addr) (cl : List (Str × Addr)) (fp : List Addr), PE (X.blk s H scope (compEnvC scope cl C X.env) fp) vx tv)
    (hs : ∀ x, foldedSetIterable iter X.env x = pure x) (Inv0 : Inv X pins σ H s) (wish : tDcN X wi g tt tk tv (own.map fun q => q.2) σ H Q)
    (after : ∀ d C s' m H', Inv X pins σ H' s' → Q (.ref d) H' → s'.heap.Ns C m → FpOk X pins H' C → compPost (model X.prog X.w) X.A X.xe use Qf (.ref d) C (.ok .next) s') :
    wpAny (model X.prog X.w) X.A (comprehension (.DictComp kx vx [⟨tg, iter, ifs, 0⟩] scope pos) scope X.env pos' newDict false (eval iter X.env) use) Qf X.xe s := by
  have frees : ∀ y ∈ scope.names, y.2 = .free → ∃ c, X.env.cells.lookup y.1 = some c := by
    intro y hy e
    rcases ok.free y hy e with z | z
    · exact Inv0.ok.has _ (.inl z)
    · exact Inv0.ok.has _ (.inr z)
  refine wpAny_comprehension_free (use := use) rfl hs (closure_ok frees) ok.kind (fun y hy e => by rw [ok.uniq y hy, e]) ?_
  refine thn (hi.run pins s σ H _ Inv0 wish) fun xv u1 hx => ?_
  refine thn hx fun itv u2 h2 => ?_
  obtain ⟨it, fp, tn, J, H2, e, I2, T, st2, f2, q⟩ := h2
  subst e
  refine wpAny_newObj_type (newEnv_comp ?_)
  generalize hD : u2.heap.objs.size = D
  have freshD : H2 D = none := I2.hok.fresh (Nat.le_of_eq hD)
  obtain ⟨W, ⟨m0, w0⟩, turn⟩ := q D freshD
  generalize hu3 : ({ u2 with heap := u2.heap.push { cls := .type "dict", data := .dict #[] } } : Shared) = u3
  have heap3 : u3.heap = u2.heap.push { cls := .type "dict", data := .dict #[] } := by rw [← hu3]
  have I3 : Inv X pins σ (upd H2 D (tbN X D [])) u3 := by
    rw [← hu3]
    refine I2.laid (t' := u2.toks) (fun b o e => Heap.get?_push_of_some _ e) (Nat.le_of_eq hD) (tbN_ok ?_)
    rw [← hD]
    have sm : (u2.heap.objs.size == sysModules) = false := beq_eq_false_iff_ne.mpr (Ne.symm (Nat.ne_of_lt I2.big))
    exact ⟨_, #[], 0, Heap.get?_push_size _ rfl, ⟨rfl, rfl, rfl⟩, rfl, rfl, List.nodup_nil, (fun _ z => by cases z), sm, Nat.zero_le _⟩
  have low : ∀ b ∈ fp, b < u2.heap.objs.size := by
    intro b hb
    obtain ⟨o, e, _⟩ := T.obj _ _ st2 b hb
    exact Heap.lt_size e
  have f3 : ∀ b ∈ fp, FpOk X pins (upd H2 D (tbN X D [])) b ∧ b < u3.heap.objs.size := by
    intro b hb
    have hlt := low b hb
    refine ⟨⟨?_, (f2 b hb).2⟩, ?_⟩
    · rw [upd_ne (by rw [← hD]; exact Nat.ne_of_lt hlt)]
      exact (f2 b hb).1
    · rw [heap3, Heap.size_push]
      exact Nat.lt_succ_of_lt hlt
  have st3 : tn 0 u3.heap := by
    refine T.keep _ _ _ st2 fun b _ o e => ?_
    rw [heap3]
    exact Heap.get?_push_of_some _ e
  have I4 := block_start I3 ok hN f3
  generalize hH3 : upd H2 D (tbN X D []) = H3 at I3 I4 w0 f3
  generalize hcl : cellsFrom (u3.heap.objs.size + 1) scope.names (cloFrom X.env.cells scope.names []) = cl at I4 ⊢
  show codeAny (model X.prog X.w) X.A (.compStart (.DictComp kx vx [⟨tg, iter, ifs, 0⟩] scope pos) 0 (.ref it) (.ref D) (compEnvC scope cl u3.heap.objs.size X.env)) (compPost (model X.prog X.w) X.A X.xe use Qf (.ref D) u3.heap.objs.size)
    { u3 with heap := pushCells (u3.heap.push { cls := .type "dict", data := .dict #[] }) scope.names }
  have pg := hg u3 H3 u3.heap.objs.size cl fp
  have pt := ht u3 H3 u3.heap.objs.size cl fp
  have pk := hk u3 H3 u3.heap.objs.size cl fp
  have pv := he u3 H3 u3.heap.objs.size cl fp
  have nofp : ∀ b ∈ fp, H3 b = none := fun b hb => (f3 b hb).1.1
  generalize hce : compEnvC scope cl u3.heap.objs.size X.env = ce at I4 pg pt pk pv ⊢
  have cL : ce.locals = u3.heap.objs.size := by
    subst hce
    rfl
  generalize hu4 : ({ u3 with heap := pushCells (u3.heap.push { cls := .type "dict", data := .dict #[] }) scope.names } : Shared) = u4 at I4 ⊢
  have st4 : tn 0 u4.heap := by
    refine T.keep _ _ _ st3 fun b _ o e => ?_
    rw [← hu4]
    exact pushCells_keeps _ _ _ _ (Heap.get?_push_of_some _ e)
  have own' : ∀ {σ' : L2.St} {H' : Hp} {s' : Shared}, Inv (X.blk u3 H3 scope ce fp) [] σ' H' s' → (∀ b ∈ fp, H' b = none) → ∀ b ∈ fp, FpOk (X.blk u3 H3 scope ce fp) [] H' b := by
    intro σ' H' s' I' hn b hb
    have z := I'.ok.exf b hb
    exact ⟨hn b hb, z.1, I'.ok.exfs b hb, .inl hb, fun x c e => z.2 x c e, fun p hp => absurd (show p ∈ ([] : List (Addr × Obj)) ++ [] from hp) (by simp)⟩
  have loop : codeAny (model X.prog X.w) X.A (.compLoop (.DictComp kx vx [⟨tg, iter, ifs, 0⟩] scope pos) 0 (.ref it) (.ref D) ce) (compPost (model X.prog X.w) X.A X.xe use Qf (.ref D) u3.heap.objs.size) u4 := by
    refine compLoop_anyD (fun n s' => ∃ i H', Inv (X.blk u3 H3 scope ce fp) [] (L2.wipe σ (own.map fun q => q.2)) H' s' ∧ tn i s'.heap ∧ (∀ b ∈ fp, H' b = none) ∧ W i n H') ?_ m0 ⟨0, H3, I4, st4, nofp, w0⟩
    rintro n u5 ⟨i, H5, I5, st5, n5, w5⟩
    rcases turn i n H5 w5 with ⟨stop, qq⟩ | ⟨go, Nx, hNx, step⟩
    · refine thnF (T.done (X.blk u3 H3 scope ce fp) rfl rfl rfl hc i [] u5 _ H5 (fun _ _ => False) I5 (own' I5 n5) st5 stop) fun r u6 ⟨hr, I6⟩ => ?_
      subst hr
      have I7 : Inv X pins σ H5 u6 := by
        refine I3.call' (ch := fp) I6.os I6.base I6.hok I6.bare fun b hb => ?_
        obtain ⟨⟨_, z1, _, z3, z4, z5⟩, _⟩ := f3 b hb
        exact ⟨z3, z1, z4, z5⟩
      have nC : H5 u3.heap.objs.size = none := by
        have z : H5 ce.locals = none := I6.free
        rw [cL] at z
        exact z
      obtain ⟨m, hn, _⟩ := I6.loc
      have hn : u6.heap.Ns ce.locals m := hn
      rw [cL] at hn
      exact after D _ u6 m H5 I7 qq hn (I3.fpOk (Nat.le_refl _) nC)
    · refine thnF (T.item (X.blk u3 H3 scope ce fp) rfl rfl rfl hc i [] u5 _ H5 (fun _ _ => False) I5 (own' I5 n5) st5 go) fun r u6 ⟨u, hr, h6⟩ => ?_
      subst hr
      refine thnF h6 fun _ u7 ⟨x, H7, I7, r7, y7, st7, n7⟩ => ?_
      have I7' := I7.pinned (own' I7 n7) (T.obj _ _ st7)
      refine thnF (pg.run _ u7 _ H7 x u _ I7' r7 (step x H7 y7)) fun _ u8 ⟨σ8, H8, I8, hw8, q8⟩ => ?_
      refine thnF (pt.run _ u8 σ8 H8 _ I8 q8) fun b u9 ⟨H9, I9, q9⟩ => ?_
      have back : ∀ {s' : Shared} {H' : Hp}, Inv (X.blk u3 H3 scope ce fp) ([] ++ pinsAt fp u7.heap) σ8 H' s' → Nx H' → ∃ m, m < n ∧ ∃ i H', Inv (X.blk u3 H3 scope ce fp) [] (L2.wipe σ (own.map fun q => q.2)) H' s' ∧ tn i s'.heap ∧ (∀ b ∈ fp, H' b = none) ∧ W i m H' := by
        intro s' H' I' nx
        obtain ⟨m', hm, w'⟩ := hNx H' nx
        have held : ∀ b ∈ fp, ∀ o, u7.heap.get? b = some o → s'.heap.get? b = some o ∧ H' b = none := by
          intro b hb o e
          have z := I'.pin (b, o) (List.mem_append_right _ (List.mem_append_right _ (mem_pinsAt hb e)))
          exact ⟨z.1, z.2.1⟩
        refine ⟨m', hm, i + 1, H', (I'.unpinned (pins := [])).weak ?_ (fun j v e => ?_), T.keep _ _ _ st7 fun b hb o e => (held b hb o e).1, fun b hb => ?_, w'⟩
        · rw [← hw8, wipe_length]
        · rw [← hw8] at e
          exact (wipe_some e).1
        · obtain ⟨o, e, _⟩ := T.obj _ _ st7 b hb
          exact (held b hb o e).2
      cases b with
      | false =>
        simp only [Bool.false_eq_true, if_false] at q9 ⊢
        exact back I9 q9
      | true =>
        simp only [if_true] at q9 ⊢
        refine thnF (pk.run _ u9 σ8 H9 _ I9 q9) fun z u10 ⟨yk, H10, I10, r10, q10⟩ => ?_
        refine thnF (pv.run _ u10 σ8 H10 _ I10 q10) fun z2 u11 ⟨yv, H11, I11, r11, bk, k, xs, M, ρ, uv, kvs, ek, ep, sm, rn, kr, hdk, hz, nx⟩ => ?_
        subst ek
        obtain rfl : z = Value.ref bk := r10
        exact nd_set (X := X.blk u3 H3 scope ce fp) hu I11 sm rn ep kr hdk hz fun u12 I12 => back I12 (nx z2 r11)
  exact codeAny_compStart_dict loop (T.self X.A 0 _ _ _ st4 loop)
theorem pe_dcN {kx vx tg iter : Expr} {ifs : List Expr} {scope : Scope} {own : List (Str × Nat)} {pos : Pos} {wi : TI} {g : TG} {tt : TT} {tk tv : TE} (hu : X.A.units + 16 < cLine) (hc : X.calm = true) (hN : X.N.Nodup) (hi : PI X tg iter wi) (ok : BlkOk X.N X.env.scope scope own)
    (hg : ∀ (s : Shared) (H : Hp) (C : Addr) (cl : List (Str × Addr)) (fp : List Addr), PG (X.blk s H scope (compEnvC scope cl C X.env) fp) tg g)
    (ht : ∀ (s : Shared) (H : Hp) (C : Addr) (cl : List (Str × Addr)) (fp : List Addr), PTs (X.blk s H scope (compEnvC scope cl C X.env) fp) ifs tt)
    (hk : ∀ (s : Shared) (H : Hp) (C : Addr) (cl : List (Str × Addr)) (fp : List Addr), PE (X.blk s H scope (compEnvC scope cl C X.env) fp) kx tk)
    (he : ∀ (s : Shared) (H : Hp) (C : Addr) (cl : List (Str × Addr)) (fp : List Addr), PE (X.blk s H scope (compEnvC scope cl C X.env) fp) vx tv)
    (hs : ∀ x, foldedSetIterable iter X.env x = pure x := by intro _; rfl) : PE X (.DictComp kx vx [⟨tg, iter, ifs, 0⟩] scope pos) (tDcN X wi g tt tk tv (own.map fun q => q.2)) := by
  constructor
  intro pins s σ H Q I h
  rw [arm_eval_DictComp]
  refine dcN_core hu hc hN hi ok hg ht hk he hs I h fun d C s' m H' I' q hn ff => ⟨m, hn, fun h2 sb => ?_⟩
  obtain ⟨k0, k1, k2, k3, k4, k5⟩ := ff
  exact ⟨.ref d, H', I'.turned (t' := s'.toks) (fun b o hb e => (sb.2 b hb).trans e) k0 k1 k3 k4 k5, rfl, q⟩
/-! y = {..}, on one line -/
theorem sw_trueD {kx vx : Expr} {gs : List Comprehension} {scope : Scope} {pos py : Pos} {y : Str} {l : Nat} {env : Env} (hk : env.scope.kind = .function) (hy : env.scope.names.lookup y = some .local) (hl : (py.line == pos.line) = true)
    (ha : (scope.names.any fun (n, k) => n == y && (k == .local || k == .cell)) = false) : swapsWith (.DictComp kx vx gs scope pos) (some (.Name y py)) l env = pure true := by
  have kind_y : env.kindOf y = some .local := hy
  have bk : env.blockKind = .function := by
    unfold Env.blockKind
    rw [hk]
    rfl
  unfold swapsWith
  simp only [bk, kind_y, ha, Expr.pos, hl]
  rfl
theorem after_used {i : Nat} {y : Str} {py : Pos} {D0 : Ends} {d C : Addr} {s' : Shared} {m : Str → Option Value} {H' : Hp} {pins : List (Addr × Obj)} {σ : L2.St} (hN : X.N.Nodup) (hy : X.N[i]? = some y) (hyl : X.env.scope.names.lookup y = some .local) (I' : Inv X pins σ H' s') (q : gName i (.ref d) σ H' D0.nx) (hn : s'.heap.Ns C m) (ff : FpOk X pins H' C) :
    compPost (model X.prog X.w) X.A X.xe (some (assign (.Name y py) X.env)) (fun _ s' => SP X pins D0 .next s') (.ref d) C (.ok .next) s' := by
  show wpAny _ _ (assign (.Name y py) X.env (.ref d)) _ _ _
  refine wpAny_assign_Name (store_ok2 (v := V.ref d) I' hN hy (.inl hyl) rfl (fun s2 I2 ⟨a, sb, ha⟩ => ?_) (.inr hyl))
  obtain ⟨k0, k1, k2, k3, k4, k5⟩ := ff
  have other : C ≠ a := by
    rcases ha with z | z
    · rw [z]
      exact k1
    · exact fun e => k4 y a z e.symm
  refine ⟨m, hn.sameBut sb other, fun h3 sb3 => ?_⟩
  exact ⟨_, H', I2.turned (t' := s2.toks) (fun b o hb e => (sb3.2 b hb).trans e) k0 k1 k3 k4 k5, q⟩
theorem ps_setDcN {i : Nat} {y : Str} {py : Pos} {kx vx tg iter : Expr} {ifs : List Expr} {scope : Scope} {own : List (Str × Nat)} {pos spos : Pos} {wi : TI} {g : TG} {tt : TT} {tk tv : TE} (hu : X.A.units + 16 < cLine) (hc : X.calm = true) (hN : X.N.Nodup) (hy : X.N[i]? = some y) (hyl : X.env.scope.names.lookup y = some .local)
    (hsw : swapsWith (.DictComp kx vx [⟨tg, iter, ifs, 0⟩] scope pos) (some (.Name y py)) spos.line X.env = pure true) (hi : PI X tg iter wi) (ok : BlkOk X.N X.env.scope scope own)
    (hg : ∀ (s : Shared) (H : Hp) (C : Addr) (cl : List (Str × Addr)) (fp : List Addr), PG (X.blk s H scope (compEnvC scope cl C X.env) fp) tg g)
    (ht : ∀ (s : Shared) (H : Hp) (C : Addr) (cl : List (Str × Addr)) (fp : List Addr), PTs (X.blk s H scope (compEnvC scope cl C X.env) fp) ifs tt)
    (hk : ∀ (s : Shared) (H : Hp) (C : Addr) (cl : List (Str × Addr)) (fp : List Addr), PE (X.blk s H scope (compEnvC scope cl C X.env) fp) kx tk)
    (he : ∀ (s : Shared) (H : Hp) (C : Addr) (cl : List (Str × Addr)) (fp : List Addr), PE (X.blk s H scope (compEnvC scope cl C X.env) fp) vx tv)
    (hs : ∀ x, foldedSetIterable iter X.env x = pure x := by intro _; rfl) : PS X (.Assign [.Name y py] (.DictComp kx vx [⟨tg, iter, ifs, 0⟩] scope pos) spos) (tAsg (tDcN X wi g tt tk tv (own.map fun q => q.2)) (gName i)) := by
  constructor
  intro pins s σ H D0 I h
  rw [exec_Assign_Name_used _ _ _ _ hsw]
  refine wpAny_bind (wpAny_standAt (wpAny_bind ?_))
  show wpAny _ X.A (do let _ ← comprehension (.DictComp kx vx [⟨tg, iter, ifs, 0⟩] scope pos) scope X.env (firstIterPos [⟨tg, iter, ifs, 0⟩] pos) newDict false (eval iter X.env) (some (assign (.Name y py) X.env))) _ _ s
  have h : tDcN X wi g tt tk tv (own.map fun q => q.2) σ H (fun x H1 => gName i x σ H1 D0.nx) := h
  refine wpAny_bind (thn (dcN_core (Qf := fun _ s' => SP X pins D0 .next s') hu hc hN hi ok hg ht hk he hs I h fun d C s' m H' I' q hn ff => ?_) fun _ s' hq => wpAny_pure (wpAny_pure hq))
  exact after_used hN hy hyl I' q hn ff
theorem ps_setDc {i : Nat} {y : Str} {py : Pos} {kx vx tg iter : Expr} {ifs : List Expr} {scope : Scope} {own : List (Str × Nat)} {pos spos : Pos} {wi : TI} {g : TG} {tt : TT} {tk tv : TE} (hc : X.calm = true) (hN : X.N.Nodup) (hy : X.N[i]? = some y) (hyl : X.env.scope.names.lookup y = some .local)
    (hsw : swapsWith (.DictComp kx vx [⟨tg, iter, ifs, 0⟩] scope pos) (some (.Name y py)) spos.line X.env = pure true) (hi : PI X tg iter wi) (ok : BlkOk X.N X.env.scope scope own)
    (hg : ∀ (s : Shared) (H : Hp) (C : Addr) (cl : List (Str × Addr)) (fp : List Addr), PG (X.blk s H scope (compEnvC scope cl C X.env) fp) tg g)
    (ht : ∀ (s : Shared) (H : Hp) (C : Addr) (cl : List (Str × Addr)) (fp : List Addr), PTs (X.blk s H scope (compEnvC scope cl C X.env) fp) ifs tt)
    (hk : ∀ (s : Shared) (H : Hp) (C : Addr) (cl : List (Str × Addr)) (fp : List Addr), PE (X.blk s H scope (compEnvC scope cl C X.env) fp) kx tk)
    (he : ∀ (s : Shared) (H : Hp) (C : Addr) (cl : List (Str × Addr)) (fp : List Addr), PE (X.blk s H scope (compEnvC scope cl C X.env) fp) vx tv)
    (hs : ∀ x, foldedSetIterable iter X.env x = pure x := by intro _; rfl) : PS X (.Assign [.Name y py] (.DictComp kx vx [⟨tg, iter, ifs, 0⟩] scope pos) spos) (tAsg (tDc wi g tt tk tv (own.map fun q => q.2)) (gName i)) := by
  constructor
  intro pins s σ H D0 I h
  rw [exec_Assign_Name_used _ _ _ _ hsw]
  refine wpAny_bind (wpAny_standAt (wpAny_bind ?_))
  show wpAny _ X.A (do let _ ← comprehension (.DictComp kx vx [⟨tg, iter, ifs, 0⟩] scope pos) scope X.env (firstIterPos [⟨tg, iter, ifs, 0⟩] pos) newDict false (eval iter X.env) (some (assign (.Name y py) X.env))) _ _ s
  have h : tDc wi g tt tk tv (own.map fun q => q.2) σ H (fun x H1 => gName i x σ H1 D0.nx) := h
  refine wpAny_bind (thn (dc_core (Qf := fun _ s' => SP X pins D0 .next s') hc hN I hi ok hg ht hk he hs h fun d C s' m H' I' q hn ff => ?_) fun _ s' hq => wpAny_pure (wpAny_pure hq))
  exact after_used hN hy hyl I' q hn ff
/-- what it wants, behind its source -/
def DnI (X : Cx) (scope : Scope) (vs : List Nat) (g : TG) (ifs : List Expr) (kx vx : Expr) (Γ : List (Option D)) (ds : List D) (G : List Cell → Prop) (S1 : List Cell) (Φ : List (NK × D) → List Cell → Prop) : Prop :=
  ∃ I : Nat → List (NK × D) → List Cell → Prop, ds.length ≤ 1000000 ∧ I 0 [] S1 ∧ (∀ i acc S', i ≤ ds.length → I i acc S' → G S' ∧ acc.length ≤ i) ∧
    (∀ i x acc S', ds[i]? = some x → I i acc S' → ∃ Γ2, TgC (gd X) vs g x (wipeD Γ vs) Γ2 ∧ WTb X scope ifs Γ2 S' fun b S2 => if b = true then WEb X scope kx Γ2 S2 fun y S3 => WEb X scope vx Γ2 S3 fun z S4 => ∃ ks, y = nkD (.tup ks) ∧ (NestedKey.tup ks).depth ≤ 8 ∧ I (i + 1) (putA acc (NestedKey.tup ks) z) S4 else I (i + 1) acc S2) ∧
    (∀ acc S', I ds.length acc S' → Φ acc S')
theorem dn_run {Γ : List (Option D)} {kx vx : Expr} {ifs : List Expr} {scope : Scope} {g : TG} {vs : List Nat} {J : It} {ds : List D} {G : List Cell → Prop} {S1 : List Cell} {ρ1 : List Addr} {M1 H1 : Hp} {σ : L2.St} {Φ : List (NK × D) → List Cell → Prop} {Qd : V → Hp → Prop} (ok1 : Ok (gd X) S1 ρ1 M1 H1) (sl1 : Slots (gd X) M1 ρ1 σ Γ) (src : SrcOk (gd X) J ds G S1 ρ1 M1 H1) (hL : DnI X scope vs g ifs kx vx Γ ds G S1 Φ)
    (p : Addr) (hp : H1 p = none) (fin : ∀ acc S' ρ' M' H' xs uv, Φ acc S' → To' p S1 ρ1 M1 H1 S' ρ' M' H' → Ok (gd X) S' ρ' M' H' → H' p = some (tbN X p xs) → RN (gd X) M' ρ' xs uv acc → Qd (.ref p) H') :
    ∃ W : Nat → Nat → Hp → Prop, (∃ m, W 0 m (upd H1 p (tbN X p []))) ∧ ∀ i m H, W i m H →
      (J.stop i H ∧ Qd (.ref p) H) ∨ (J.go i H ∧ ∃ Nx : Hp → Prop, (∀ H', Nx H' → ∃ m', m' < m ∧ W (i + 1) m' H') ∧ ∀ x H', J.yld i H x H' → g x (L2.wipe σ vs) H' fun σ2 H2 => L2.wipe σ2 vs = L2.wipe σ vs ∧ ttOf X scope ifs σ2 H2 fun b H3 =>
        if b = true then teOf X scope kx σ2 H3 fun y H4 => teOf X scope vx σ2 H4 fun z H5 => ∃ (b : Addr) (k : NK) (xs : List (NK × Addr × Value)) (M : Hp) (ρ : List Addr) (uv : List V) (kvs : List (NK × D)), y = .ref b ∧ H5 p = some (tbN X p xs) ∧ Same M H5 ∧ RN (gd X) M ρ xs uv kvs ∧ Rp (gd X) M ρ (.ref b) (nkD k) ∧ k.depth ≤ 8 ∧ xs.length < sizeLine ∧ (∀ r, RelV z r → Nx (upd H5 p (tbN X p (storedH xs k b r)))) else Nx H3) := by
  obtain ⟨I, hz, h0, hst, hi, hd⟩ := hL
  refine ⟨fun i m H' => m = ds.length - i ∧ i ≤ ds.length ∧ ∃ acc xs uv S' ρ' M', I i acc S' ∧ To' p S1 ρ1 M1 H1 S' ρ' M' H' ∧ Ok (gd X) S' ρ' M' H' ∧ H' p = some (tbN X p xs) ∧ RN (gd X) M' ρ' xs uv acc,
    ⟨ds.length, rfl, Nat.zero_le _, [], [], [], S1, ρ1, M1, h0, To'.start ok1 hp, ok1.priv (Priv.new (H' := H1) ok1 hp), upd_same, ⟨rfl, .nil, .nil, .nil⟩⟩, ?_⟩
  rintro i m H' ⟨rfl, hle, acc, xs, uv, S', ρ', M', hI, t', ok', ep, ra⟩
  obtain ⟨hG, hacc⟩ := hst i acc S' hle hI
  by_cases hlt : i < ds.length
  · refine .inr ⟨src.go i S' ρ' M' H' t'.up ok' hG hlt, fun H2 => i + 1 ≤ ds.length ∧ ∃ acc xs uv S' ρ' M', I (i + 1) acc S' ∧ To' p S1 ρ1 M1 H1 S' ρ' M' H2 ∧ Ok (gd X) S' ρ' M' H2 ∧ H2 p = some (tbN X p xs) ∧ RN (gd X) M' ρ' xs uv acc, fun H2 ⟨hl2, q⟩ => ⟨ds.length - (i + 1), by omega, rfl, hl2, q⟩, fun x H2 y => ?_⟩
    obtain ⟨d, M2, ed, ty, oky, rx⟩ := src.yld i S' ρ' M' H' x H2 t'.up ok' hG hlt y
    obtain ⟨t2, e2⟩ := t'.step hp ⟨_, ep⟩ ty
    obtain ⟨Γ2, hgx, ht⟩ := hi i d acc S' ed hI
    refine hgx M2 H2 ρ' (L2.wipe σ vs) x _ oky.sub (((t2.to).slots sl1).wipe vs) rx fun σ2 sl2 ew => ?_
    refine ⟨ew.trans (wipe_wipe vs vs σ fun _ h => h), ?_⟩
    refine wtb_run ht oky sl2 fun b S3 ρ3 M3 H3 h3 t3 ok3 => ?_
    obtain ⟨t4, e4⟩ := t2.step hp ⟨_, e2.trans ep⟩ t3
    have e3 : H3 p = some (tbN X p xs) := by rw [e4, e2, ep]
    have ra3 := (ra.mono ty.pm ty.pre).mono t3.pm t3.pre
    cases b with
    | false =>
      show i + 1 ≤ ds.length ∧ _
      exact ⟨hlt, acc, xs, uv, S3, ρ3, M3, h3, t4, ok3, e3, ra3⟩
    | true =>
      refine web_run (show WEb X scope kx Γ2 S3 _ from h3) ok3 (t3.slots sl2) fun y S4 vy ρ4 M4 H4 h5 t5 ok5 ry => ?_
      obtain ⟨t6, e6⟩ := t4.step hp ⟨_, e3⟩ t5
      have e5 : H4 p = some (tbN X p xs) := by rw [e6, e3]
      refine web_run (show WEb X scope vx Γ2 S4 _ from h5) ok5 (t5.slots (t3.slots sl2)) fun z S5 vz ρ5 M5 H5 ⟨ks, ek, hdk, h7⟩ t7 ok7 rz => ?_
      obtain ⟨t8, e8⟩ := t6.step hp ⟨_, e5⟩ t7
      have e7 : H5 p = some (tbN X p xs) := by rw [e8, e5]
      subst ek
      have ra5 := (ra3.mono t5.pm t5.pre).mono t7.pm t7.pre
      have ry5 := t7.rp ry
      obtain ⟨bk, eb⟩ := tup_ref ry
      subst eb
      have hlen : xs.length < sizeLine := by rw [ra.length]; exact Nat.lt_of_le_of_lt hacc (Nat.lt_of_lt_of_le hlt (Nat.le_trans hz (by decide)))
      refine ⟨bk, .tup ks, xs, M5, ρ5, uv, acc, rfl, e7, ok7.sub, ra5, ry5, hdk, hlen, fun r rv => ?_⟩
      obtain ⟨uv', rn'⟩ := ra5.put (.tup ks) ry5 rv rz
      exact ⟨hlt, putA acc (NestedKey.tup ks) z, storedH xs (NestedKey.tup ks) bk r, uv', S5, ρ5, M5, h7, t8.put hp, t8.ok ok7, upd_same, rn'⟩
  · have e : i = ds.length := by omega
    subst e
    exact .inl ⟨src.stop S' ρ' M' H' t'.up ok' hG, fin acc S' ρ' M' H' xs uv (hd acc S' hI) t' ok' ep ra⟩
/-- over the store: the dict stands for good -/
theorem we_dcN {Γ : List (Option D)} {S : List Cell} {Ξ : XP} {kx vx tg iter : Expr} {ifs : List Expr} {scope : Scope} {own : List (Str × Nat)} {pos : Pos} {g : TG} {Φ : D → List Cell → Prop} (hu : X.A.units + 16 < cLine) (hc : X.calm = true) (hN : X.N.Nodup) (ok : BlkOk X.N X.env.scope scope own) (hg : ∀ (s : Shared) (H : Hp) (C : Addr) (cl : List (Str × Addr)) (fp : List Addr), PG (X.blk s H scope (compEnvC scope cl C X.env) fp) tg g)
    (h : WI X tg iter Γ S (fun ds G S1 => DnI X scope (own.map fun q => q.2) g ifs kx vx Γ ds G S1 fun acc S' => Φ (dN acc) S') Ξ) (hif : ifs.length ≤ 1 := by decide) (hs : ∀ x, foldedSetIterable iter X.env x = pure x := by intro _; rfl) : WE X (.DictComp kx vx [⟨tg, iter, ifs, 0⟩] scope pos) Γ S Φ Ξ :=
  fun σ ρ M H Q W okS sl kv kx' tk => by
    obtain ⟨wi, hwi, hr⟩ := h
    refine PE.s (pe_dcN hu hc hN hwi ok hg (pts_of hif) pe_of pe_of hs) (hr σ ρ M H _ W okS sl (fun J ds G S1 ρ1 M1 H1 hL t1 ok1 src => ?_) kx' tk)
    intro p hp
    refine dn_run ok1 (t1.slots sl) src hL p hp fun acc S' ρ' M' H' xs uv hΦ t' ok' ep ra => ?_
    obtain ⟨t2, ok2, sm⟩ := t'.keep hp ok' ep
    exact kv _ S' _ ρ' _ H' hΦ (t1.trans t2) ok2 ((ra.mono sm (fun _ _ h => h)).rp upd_same)
theorem ws_dcN {Γ : List (Option D)} {S : List Cell} {P : Post} {kx vx tg iter : Expr} {ifs : List Expr} {scope : Scope} {own : List (Str × Nat)} {pos spos py : Pos} {g : TG} {i : Nat} {y : Str} (hu : X.A.units + 16 < cLine) (hc : X.calm = true) (hN : X.N.Nodup) (ok : BlkOk X.N X.env.scope scope own) (hg : ∀ (s : Shared) (H : Hp) (C : Addr) (cl : List (Str × Addr)) (fp : List Addr), PG (X.blk s H scope (compEnvC scope cl C X.env) fp) tg g)
    (h : WI X tg iter Γ S (fun ds G S1 => DnI X scope (own.map fun q => q.2) g ifs kx vx Γ ds G S1 fun acc S' => P.nx (Γ.set i (some (dN acc))) S') P.ex) (hy : X.N[i]? = some y := by rfl) (hyl : X.env.scope.names.lookup y = some .local := by rfl)
    (hsw : swapsWith (.DictComp kx vx [⟨tg, iter, ifs, 0⟩] scope pos) (some (.Name y py)) spos.line X.env = pure true := by exact sw_trueD rfl rfl rfl (by decide +kernel)) (hif : ifs.length ≤ 1 := by decide) (hs : ∀ x, foldedSetIterable iter X.env x = pure x := by intro _; rfl) : WS X (.Assign [.Name y py] (.DictComp kx vx [⟨tg, iter, ifs, 0⟩] scope pos) spos) Γ S P :=
  fun σ ρ M H E okS sl sat => by
    obtain ⟨W, kx', tk⟩ := sat.ex
    obtain ⟨wi, hwi, hr⟩ := h
    refine PS.s (ps_setDcN hu hc hN hy hyl hsw hwi ok hg (pts_of hif) pe_of pe_of hs) (hr σ ρ M H _ W okS sl (fun J ds G S1 ρ1 M1 H1 hL t1 ok1 src => ?_) kx' tk)
    intro p hp
    refine dn_run (Qd := fun x H1 => gName i x σ H1 E.nx) ok1 (t1.slots sl) src hL p hp fun acc S' ρ' M' H' xs uv hΦ t' ok' ep ra => ?_
    obtain ⟨t2, ok2, sm⟩ := t'.keep hp ok' ep
    exact sat.nx _ S' _ ρ' _ H' hΦ (t1.trans t2) ok2 (((t1.trans t2).slots sl).set ((ra.mono sm (fun _ _ h => h)).rp upd_same) i)
end
end Ab
set_option Elab.async false
set_option linter.all false
set_option maxRecDepth 100000
set_option maxHeartbeats 4000000
/-! Plain tuples; dict(pairs); sorted of data; isinstance; comparisons of dicts. -/
namespace Ab
open PySem PySem.Spec PyProof.Rows L2
section
variable {X : Cx} {Γ : List (Option D)} {S : List Cell} {Φ : D → List Cell → Prop} {Ξ : XP} {o i e f v : Expr} {es : List Expr} {pos apos cpos pos' p : Pos} {g : Gd} {M H : Hp} {ρ : List Addr}
theorem pt_tup {v : V} {ds : List D} (r : Rp g M ρ v (.ptup ds)) : Rp g M ρ v (.tup ds) := by
  cases r with
  | ptup s n rs => exact .tup (.inl (.inr ⟨_, s⟩)) rs
theorem we_pt (h : WE X e Γ S (fun d S' => ∃ xs, d = .ptup xs ∧ Φ (.tup xs) S') Ξ) : WE X e Γ S Φ Ξ := fun σ ρ M H Q W ok sl kv kx tk => h σ ρ M H Q W ok sl (fun d S' v ρ' M' H' ⟨xs, ed, p⟩ t ok' r => by
  subst ed
  exact kv _ S' v ρ' M' H' p t ok' (pt_tup r)) kx tk
def tPtup (t : TA) : TE := fun σ H Q => t σ H fun xs H1 => xs.length ≤ sizeLine ∧ ∀ (p : Addr) (o : Obj), o.dict = none → H1 p = none → Q (.ref p) (upd H1 p (.frz o (.tup xs)))
theorem pe_ptup {x1 : Nat} {t : TA} (h : PA X es t) : PE X (.Tuple es x1 pos) (tPtup t) := by
  constructor
  intro pins s σ H Q I hq
  refine wpAny_Tuple_spliced (thn (h.run pos pins s σ H _ I hq) fun us s1 ⟨xs, H1, I1, r, z, q⟩ => ?_)
  refine ⟨by rw [← r.length]; exact z, ?_⟩
  have hf : H1 s1.heap.objs.size = none := I1.hok.fresh (Nat.le_refl _)
  have q2 := q _ { cls := .type "tuple", data := .seq us.toArray } rfl hf
  refine ⟨.ref s1.heap.objs.size, _, I1.laid (t' := s1.toks) (fun b u e => Heap.get?_push_of_some _ e) (Nat.le_refl _) ?_, rfl, q2⟩
  exact ⟨Heap.get?_push_size _ rfl, z, us, r, _, Heap.get?_push_size _ rfl, rfl, _, rfl⟩
theorem we_ptup {x1 : Nat} (h : WA X es Γ S (fun ds S1 => ds.length ≤ 100000 ∧ Φ (.ptup ds) S1) Ξ) : WE X (.Tuple es x1 pos) Γ S Φ Ξ :=
  fun σ ρ M H Q W ok sl kv kx tk => PE.s (pe_ptup (pa_s es)) (h σ ρ M H _ W ok sl (fun ds S1 vs ρ1 M1 H1 ⟨hl, q⟩ t1 ok1 r1 => by
    refine ⟨by rw [r1.length]; exact Nat.le_trans hl (by decide), fun a o hn ha => ?_⟩
    obtain ⟨ok2, t2⟩ := ok1.keep (o := .frz o (.tup vs)) ha
    exact kv _ S1 _ ρ1 _ _ q (t1.trans t2) ok2 (.ptup upd_same hn (t2.rps r1))) kx tk)
theorem call_ptup : CallR X (.type "tuple") (fun xs H Q => ∃ p ys, xs = [.ref p] ∧ SqL X.K H p ys ∧ ∀ (l : Addr) (o : Obj), o.dict = none → H l = none → Q (.ref l) (upd H l (.frz o (.tup ys)))) := by
  intro pins s σ H xs us Q I r h
  obtain ⟨p, ys, rfl, hq, q⟩ := h
  obtain ⟨u, rfl, rx⟩ := vals1 r
  cases rx
  obtain ⟨its, r', pl, hz⟩ := I.list hq
  have hlen := r'.length
  refine call_tuple_list pl.isList (fun h' kp => ?_) (by simp only [List.size_toArray] <;> omega)
  have I1 : Inv X pins σ H { s with heap := h' } := I.kept (t' := s.toks) kp
  have q2 := q h'.objs.size { cls := .type "tuple", data := .seq its.toArray } rfl (I1.hok.fresh (Nat.le_refl _))
  exact ⟨.ref h'.objs.size, _, I1.laid (t' := s.toks) (fun b o e => Heap.get?_push_of_some _ e) (Nat.le_refl _) (show ObjOk X.prog X.w _ _ _ (.frz _ (.tup ys)) from ⟨Heap.get?_push_size _ rfl, hz, its, r', IsTup.new _ _⟩), rfl, q2⟩
theorem we_tupP (hg : Gl X "tuple") (hm : X.mg "tuple" = none) (h : WE X e Γ S (fun x S1 => ∃ xs, LstD S1 x xs ∧ Φ (.ptup xs) S1) Ξ) (he : starEach [e] X.env = [(false, eval e X.env)] := by rfl) : WE X (.Call (.Name "tuple" p) [e] [] pos) Γ S Φ Ξ :=
  we_callTy1 call_ptup hg hm boot_tuple (h.imp fun x S1 ⟨xs, hx, q⟩ ρ M H vs Q ok rs kv => by
    obtain ⟨v, rfl, r⟩ := rps1 rs
    obtain ⟨a, us, e1, q1, ru⟩ := hx.at ok r
    refine ⟨a, us, by rw [e1], q1, fun l o hn hl => ?_⟩
    obtain ⟨ok2, t2⟩ := ok.keep (o := .frz o (.tup us)) hl
    exact kv _ S1 _ ρ _ _ q t2 ok2 (.ptup upd_same hn (t2.rps ru))) (he := he)

/-! ### dict(pairs) -/
theorem pairs2 {pins : List (Addr × Obj)} {σ : L2.St} {H : Hp} {s : Shared} (I : Inv X pins σ H s) : ∀ {ps : List Addr} {kvs : List (Key × V)}, Paired (fun p kv => SqT X.K H p [kV kv.1, kv.2]) ps kvs →
    ∃ (prs : List (Key × Value)) (us : List (Value × Value)), KV kvs prs ∧ prs.length = ps.length ∧ us.length = ps.length ∧ ∀ (j : Nat) (k v : Value), us[j]? = some (k, v) → ∃ b key, ps[j]? = some b ∧ s.heap.IsTuple b #[k, v] ∧ prs[j]? = some (key, v) ∧ keyIs key k = true
  | _, _, .nil => ⟨[], [], .nil, rfl, rfl, fun j k v e => by simp at e⟩
  | _, _, .cons (a := p) (b := kv) h t => by
    obtain ⟨prs, us, r, hl, hl2, hp⟩ := pairs2 I t
    obtain ⟨its, rv, ht, _⟩ := I.tuple h
    obtain ⟨u, y, ei, ru, ry⟩ := vals2 rv
    subst ei
    refine ⟨(kv.1, y) :: prs, (u, y) :: us, .cons ⟨rfl, ry⟩ r, by rw [List.length_cons, List.length_cons, hl], by rw [List.length_cons, List.length_cons, hl2], fun j k v e => ?_⟩
    cases j with
    | zero =>
      have e' : (u, y) = (k, v) := Option.some.inj e
      cases e'
      exact ⟨p, kv.1, rfl, ht, rfl, kV_is (P := X.prog) (w := X.w) ru⟩
    | succ j =>
      obtain ⟨b, key, e1, e2, e3, e4⟩ := hp j k v (by simpa using e)
      exact ⟨b, key, by simpa using e1, e2, by simpa using e3, e4⟩
theorem call_dictT (hcalm : X.calm = true) : CallR X (.type "dict") (fun xs H Q => ∃ (a : Addr) (o : Obj) (ps : List Addr) (kvs : List (Key × V)), xs = [.ref a] ∧ H a = some (.frz o (.tup (ps.map V.ref))) ∧ o.dict = none ∧ Paired (fun p kv => SqT X.K H p [kV kv.1, kv.2]) ps kvs ∧
    ∀ p, H p = none → Q (.ref p) (upd H p (.dK (mergeK [] kvs)))) := by
  intro pins s σ H xs us Q I r q
  obtain ⟨a, o, ps, kvs, ex, hq, hn, hp, q⟩ := q
  subst ex
  obtain ⟨u, eu, rx⟩ := vals1 r
  subst eu
  cases rx
  obtain ⟨ho, hz, its, rv, o', ho', hc, n, hd⟩ := (show ObjOk X.prog X.w H s.heap a (.frz o (.tup (ps.map V.ref))) from I.hok a _ hq)
  rw [ho] at ho'
  cases ho'
  have ei := refs_at rv
  subst ei
  rw [List.length_map] at hz
  obtain ⟨prs, us, rel, hl, hl2, hpr⟩ := pairs2 I hp
  have P := PairArg.tuple (prog := X.prog) (w := X.w) a (ps.map Value.ref).toArray (fun j => ps.getD j 0) us
  refine PySem.call_dict_pairs (knd := mixKind X.prog X.w) (kvs := prs) P (I.ok.hd hcalm) ⟨⟨o, n, ho, hc, hn, hd⟩, ?_, fun j k v e => ?_⟩ ⟨by rw [hl, hl2], fun j k v e => ?_⟩ (by rw [hl2]; exact hz) fun h' tk hd' k => ?_
  · simp [hl2]
  · obtain ⟨b, key, e1, e2, e3, e4⟩ := hpr j k v e
    refine ⟨?_, .inl ?_⟩
    · simp [e1, List.getD_eq_getElem?_getD]
    · have : ps.getD j 0 = b := by simp [e1, List.getD_eq_getElem?_getD]
      show s.heap.IsTuple (ps.getD j 0) #[k, v]
      rw [this]
      exact e2
  · obtain ⟨b, key, e1, e2, e3, e4⟩ := hpr j k v e
    exact ⟨key, e3, e4⟩
  · have hm : (s.heap.objs.size == sysModules) = false := beq_eq_false_iff_ne.mpr (Nat.ne_of_gt I.big)
    have hlen : (mergeK [] kvs).length ≤ sizeLine := by
      refine Nat.le_trans (length_mergeK kvs []) ?_
      rw [List.length_nil, Nat.zero_add, rel.length, hl]
      exact hz
    exact ⟨.ref s.heap.objs.size, upd H s.heap.objs.size (.dK (mergeK [] kvs)), I.laid (t' := tk) (fun b o e => k b o (by simp) e) (Nat.le_refl _) (show ObjOk X.prog X.w _ _ _ (.dK (mergeK [] kvs)) from ⟨hlen, hm, merged [] prs, KV.merge rel .nil, hd'⟩), rfl, q _ (I.hok.fresh (Nat.le_refl _))⟩
def mergeA (kvs more : List (Key × D)) : List (Key × D) := more.foldl (fun acc kv => putA acc kv.1 kv.2) kvs
theorem RK.merge : ∀ {mv : List (Key × V)} {md : List (Key × D)} {vs : List (Key × V)} {ds : List (Key × D)}, RK g M ρ vs ds → RK g M ρ mv md → RK g M ρ (mergeK vs mv) (mergeA ds md)
  | [], [], _, _, h, _ => h
  | [], _ :: _, _, _, _, h => by have := h.length; simp at this
  | _ :: _, [], _, _, _, h => by have := h.length; simp at this
  | q :: mv, e :: md, vs, ds, h, h2 => by
    obtain ⟨a, b, c⟩ := h2.cons_inv
    have := RK.merge (h.put e.1 b) c
    unfold mergeK mergeA at this ⊢
    rw [List.foldl_cons, List.foldl_cons, a]
    exact this
theorem pairs_of_rps (sm : Same M H) : ∀ {kvs : List (Key × D)} {vs : List V}, Rps g M ρ vs (kvs.map fun q => .tup [keyD q.1, q.2]) → ∃ (ps : List Addr) (kvV : List (Key × V)), vs = ps.map V.ref ∧ Paired (fun p kv => SqT g.K H p [kV kv.1, kv.2]) ps kvV ∧ RK g M ρ kvV kvs
  | [], _, r => by
    cases r
    exact ⟨[], [], rfl, .nil, RK.nil⟩
  | q :: kvs, _, r => by
    cases r with
    | cons r1 r2 =>
      obtain ⟨ps, kvV, e1, e2, e3⟩ := pairs_of_rps sm r2
      obtain ⟨a, us, ea, sq, rs⟩ := rp_tup r1
      cases rs with
      | cons s1 s2 =>
        cases s2 with
        | cons s3 s4 =>
          cases s4
          have := key_of_rp s1
          subst this ea e1
          exact ⟨a :: ps, (q.1, _) :: kvV, rfl, .cons (seqT sm sq) e2, .cons rfl s3 e3⟩
theorem we_dictT (hc : X.calm = true) (hg : Gl X "dict") (hm : X.mg "dict" = none) (h : WE X e Γ S (fun x S1 => ∃ kvs : List (Key × D), x = .ptup (kvs.map fun q => .tup [keyD q.1, q.2]) ∧ Φ (.ptr S1.length) (S1 ++ [cK (mergeA [] kvs)])) Ξ) (he : starEach [e] X.env = [(false, eval e X.env)] := by rfl) : WE X (.Call (.Name "dict" p) [e] [] pos) Γ S Φ Ξ :=
  we_callTy1 (call_dictT hc) hg hm boot_dict (h.imp fun x S1 ⟨kvs, hx, q⟩ ρ M H vs Q ok rs kv => by
    obtain ⟨v, rfl, r⟩ := rps1 rs
    subst hx
    cases r with
    | ptup ea hn r2 =>
      obtain ⟨ps, kvV, e1, e2, e3⟩ := pairs_of_rps ok.sub r2
      subst e1
      refine ⟨_, _, ps, kvV, rfl, ok.sub _ _ ea, hn, e2, fun l hl => ?_⟩
      have pre : ∀ (j : Nat) (b : Addr), ρ[j]? = some b → (ρ ++ [l])[j]? = some b := fun j b hb => by
        rw [List.getElem?_append_left (List.getElem?_eq_some_iff.mp hb).1]
        exact hb
      have rk : RK (gd X) M ρ (mergeK [] kvV) (mergeA [] kvs) := RK.nil.merge e3
      obtain ⟨ok2, t2⟩ := ok.more (o := .dK (mergeK [] kvV)) (c := cK (mergeA [] kvs)) hl ((rk.mono (fun _ _ h => h) pre).cell upd_same)
      exact kv _ _ _ _ _ _ q t2 ok2 (.ptr (by rw [← ok.len]; simp))) (he := he)
theorem wi_ptup {tg : Expr} {Φ : List D → (List Cell → Prop) → List Cell → Prop} (h : WE X e Γ S (fun d S1 => ∃ ds, d = .ptup ds ∧ Φ ds (fun _ => True) S1) Ξ) : WI X tg e Γ S Φ Ξ :=
  wi_tup (we_pt (h.imp fun d S1 ⟨ds, e, q⟩ => ⟨ds, e, ds, rfl, q⟩))

/-! ### isinstance(x, list) -/
theorem we_bltnTy {x : Str} {n : String} (hg : Gl X x) (hm : X.mg x = none) (hv : bootBuiltins x = some (.type n)) (h : Φ (.ty n) S) (hn : x ≠ "__name__" := by decide) (hdb : (x == ("__debug__" : Str)) = false := by decide) : WE X (.Name x pos) Γ S Φ Ξ :=
  fun σ ρ M H Q W ok sl kv kx tk => PE.s (pe_bltn (v := .ty n) hg hm hv rfl hn hdb) (kv _ S _ ρ M H h .refl ok (.ty n))
def isLst : D → Option Bool
  | .str _ => some false
  | .non => some false
  | .lst _ => some true
  | _ => none
theorem we_isLst (hg : Gl X "isinstance") (hm : X.mg "isinstance" = none) (hg2 : Gl X "list") (hm2 : X.mg "list" = none) (h : WE X e Γ S (fun d S1 => ∃ b, isLst d = some b ∧ Φ (.bl b) S1) Ξ) (he : starEach (e :: [.Name "list" pos']) X.env = (false, eval e X.env) :: starEach [.Name "list" pos'] X.env := by rfl) : WE X (.Call (.Name "isinstance" p) [e, .Name "list" pos'] [] pos) Γ S Φ Ξ :=
  we_callB call_isi hg hm boot_isinstance (wa_cons (h.imp fun d S1 ⟨b, hb, q⟩ => wa_cons (we_bltnTy hg2 hm2 boot_list (wa_nil (fun ρ M H vs Q ok rs kv => by
    cases rs with
    | cons r1 t =>
      obtain ⟨u, rfl, r2⟩ := rps1 t
      cases r2
      have fin : Q (.bl b) H := kv _ S1 _ ρ M H q .refl ok (.bl b)
      cases r1 with
      | str s =>
        cases hb
        exact ⟨_, _, .type "str", .type "list", false, rfl, .ty _, .base (.str s), rfl, fin⟩
      | non =>
        cases hb
        exact ⟨_, _, .type "NoneType", .type "list", false, rfl, .ty _, .base .non, rfl, fin⟩
      | lst s r =>
        cases hb
        refine ⟨_, _, .type "list", .type "list", true, rfl, .ty _, ?_, rfl, fin⟩
        rcases s with (s | ⟨o, s⟩) | ⟨o, its, n, s1, s2, _⟩
        · exact .base (.lst (ok.sub _ _ s))
        · exact .base (.frz (ok.sub _ _ s))
        · exact .kList s1 s2
      | _ => cases hb))) rfl) he) (he := he) (hpl := rfl)

/-! ### dicts compared -/
theorem r2_neDict {x y : D} {ks ls : List (Key × D)} (hx : DicK S x ks) (hy : DicK S y ls) (hl : ks.length = ls.length) (hp : ∀ p ∈ ks, ∃ i : Int, p.2 = .int i ∧ getA ls p.1 = some (.int i)) (h : Φ (.bl false) S) : R2s g rNeDA x y S Φ := fun ρ M H vx vy Q ok rx ry kv => by
  obtain ⟨a, ka, e1, q1, r1⟩ := hx.at ok rx
  obtain ⟨b, kb, e2, q2, r2⟩ := hy.at ok ry
  refine ⟨a, b, ka, kb, e1, e2, q1, q2, by rw [r1.length, r2.length]; exact hl, fun p hp' => ?_, kv _ S _ ρ M H h .refl ok (.bl _)⟩
  obtain ⟨j, hj⟩ := List.mem_iff_getElem?.mp hp'
  have hv : (ka.map fun p => p.2)[j]? = some p.2 := by rw [List.getElem?_map, hj]; rfl
  obtain ⟨d, hd, rd⟩ := r1.vs.getV hv
  have hk : (ks.map fun p => p.1)[j]? = some p.1 := by rw [← r1.ks, List.getElem?_map, hj]; rfl
  rw [List.getElem?_map] at hd hk
  cases e3 : ks[j]? with
  | none => rw [e3] at hd; cases hd
  | some z =>
    rw [e3] at hd hk
    have hd2 : z.2 = d := by simpa using hd
    have hk2 : z.1 = p.1 := by simpa using hk
    obtain ⟨i, e4, e5⟩ := hp z (List.mem_iff_getElem?.mpr ⟨j, e3⟩)
    rw [← hd2, e4] at rd
    rw [hk2] at e5
    rcases r2.get p.1 with ⟨_, n⟩ | ⟨v, d', n1, n2, rv⟩
    · rw [n] at e5; cases e5
    · rw [e5] at n2
      cases n2
      rw [rp_int rv] at n1
      rw [rp_int rd]
      exact ⟨n1, rfl⟩
/-- d != {} -/
def rNe0 : R2 := fun x y H Q => ∃ a b ks ls, x = .ref a ∧ y = .ref b ∧ H a = some (.dK ks) ∧ H b = some (.dK ls) ∧ ls = [] ∧ Q (.bl (!decide (ks.length = 0))) H
theorem op_ne0 (hu : X.A.units + 16 < cLine) : OpR X (compareOp .NotEq) rNe0 := by
  intro pins s σ H x y v u Q I rx ry h
  obtain ⟨a, b, ks, ls, rfl, rfl, ea, eb, rfl, q⟩ := h
  obtain rfl : v = Value.ref a := rx
  obtain rfl : u = Value.ref b := ry
  obtain ⟨_, ya, va, ra, da⟩ := (show ObjOk X.prog X.w H s.heap a (.dK ks) from I.hok a _ ea)
  obtain ⟨_, yb, vb, rb, db⟩ := (show ObjOk X.prog X.w H s.heap b (.dK []) from I.hok b _ eb)
  have hl : ks.length = va.length := ra.length
  have hl2 : vb.length = 0 := rb.length.symm
  refine PySem.W.keq_ne (knd := mixKind X.prog X.w) (r := true) ya yb da db (by omega) (fun e => ?_) ?_
  · have : va = [] := List.length_eq_zero_iff.mp (by omega)
    subst this
    exact .nil
  · have e : (!(va.length == vb.length && true)) = !decide (ks.length = 0) := by
      rw [hl2, hl]
      cases va.length <;> rfl
    rw [e]
    exact ⟨.bl (!decide (ks.length = 0)), H, I, rfl, q⟩
theorem r2_ne0 {x y : D} {ks : List (Key × D)} (hx : DicK S x ks) (hy : DicK S y []) (h : Φ (.bl (!decide (ks.length = 0))) S) : R2s g rNe0 x y S Φ := fun ρ M H vx vy Q ok rx ry kv => by
  obtain ⟨a, ka, e1, q1, r1⟩ := hx.at ok rx
  obtain ⟨b, kb, e2, q2, r2⟩ := hy.at ok ry
  have : kb = [] := List.length_eq_zero_iff.mp (by rw [r2.length]; rfl)
  refine ⟨a, b, ka, kb, e1, e2, q1, q2, this, ?_⟩
  rw [r1.length]
  exact kv _ S _ ρ M H h .refl ok (.bl _)
end
end Ab
set_option Elab.async false
set_option linter.all false
set_option maxRecDepth 100000
set_option maxHeartbeats 4000000
/-! sorted of data; a starred target; dict displays; append, extend; tuples compared; a token for replace. -/
namespace Ab
open PySem PySem.Spec PyProof.Rows L2
section
variable {X : Cx} {Γ : List (Option D)} {S : List Cell} {Φ : D → List Cell → Prop} {Ξ : XP} {o i e f v : Expr} {es : List Expr} {pos apos cpos pos' p : Pos} {g : Gd} {M H : Hp} {ρ : List Addr}
open PySem.W in
def rSrt (K : PySem.W.Frag) : List V → Hp → VK → Prop := fun xs H Q => ∃ (a : Addr) (vs : List V) (ds : List PyData), xs = [.ref a] ∧ SqL K H a vs ∧ DpAll K H vs ds ∧ AllAlike ds ∧ Sortable ds ∧ (∀ d ∈ ds, d.depth ≤ 64) ∧
  ∀ p, H p = none → Q (.ref p) (upd H p (.lst (((vs.zip ds).mergeSort (dataLe false fun b => b.2)).map fun b => b.1)))
theorem each_zip {pins : List (Addr × Obj)} {σ : L2.St} {s : Shared} (I : Inv X pins σ H s) : ∀ {vs : List V} {ds : List PyData} {us : List Value}, DpAll X.K H vs ds → Vals vs us →
    PySem.W.EachIs (fun u b => RelV b.1 u) us (vs.zip ds) ∧ PySem.W.EachIs (fun u b => ∃ as, Reads s.heap u b.2 as) us (vs.zip ds) ∧ (vs.zip ds).map (fun b => b.2) = ds ∧ (vs.zip ds).length = vs.length
  | _, _, _, .nil, .nil => ⟨.nil, .nil, rfl, rfl⟩
  | _, _, _, .cons h t, .cons r q => by
    obtain ⟨a1, a2, a3, a4⟩ := each_zip I t q
    obtain ⟨as, z⟩ := Dp.reads I _ _ _ h r
    refine ⟨.cons r a1, .cons ⟨as, z⟩ a2, ?_, ?_⟩
    · rw [List.zip_cons_cons, List.map_cons, a3]
    · rw [List.zip_cons_cons, List.length_cons, List.length_cons, a4]
theorem vals_each : ∀ {us : List Value} {bs : List (V × PyData)}, PySem.W.EachIs (fun u b => RelV b.1 u) us bs → Vals (bs.map fun b => b.1) us
  | _, _, .nil => .nil
  | _, _, .cons h t => .cons h (vals_each t)
theorem cr_srt (hu : X.A.units + 80 < cLine) : CallR X (.builtin "sorted") (rSrt X.K) := by
  intro pins s σ H xs us Q I r h
  obtain ⟨a, vs, ds, rfl, hq, hd, hal, hs, hdep, q⟩ := h
  obtain rfl := Vals.ref1 r
  obtain ⟨its, rv, pl, hz⟩ := I.list hq
  obtain ⟨z1, z2, z3, z4⟩ := each_zip I hd rv
  refine PySem.W.sorted_data (bs := vs.zip ds) (enc := fun b => b.2) pl.isList z1 z2 (by rw [z3]; exact hal) (by rw [z3]; exact hs) (by rw [z4]; exact hz) (fun b hb => ?_) fun out hl eo => ?_
  · have : b.2 ∈ ds := by
      rw [← z3]
      exact List.mem_map.mpr ⟨b, hb, rfl⟩
    have := hdep _ this
    omega
  · have vo := vals_each eo
    obtain ⟨c, hc⟩ := PyProof.Rows.sortedAll_at s.heap its (List.toArray out)
    have hn : s.heap.objs.size ≤ s.heap.objs.size + 1 := Nat.le_succ _
    refine ⟨.ref (s.heap.objs.size + 1), _, I.laid (t' := s.toks) (fun b o e => PyProof.Rows.sortedAll_old e) hn (show ObjOk X.prog X.w _ _ _ (.lst _) from ⟨?_, out, c, vo, hc⟩), rfl, q _ (I.hok.fresh hn)⟩
    rw [List.length_map, List.length_mergeSort, z4]
    exact hz
theorem dpAll_zip : ∀ {vs : List V} {ds : List D}, Rps g M ρ vs ds → (vs.zip ds).map (fun b => (b.1, toPy b.2)) = vs.zip (toPys ds) ∧ (vs.zip ds).map (fun b => b.2) = ds ∧ ∀ b ∈ vs.zip ds, Rp g M ρ b.1 b.2
  | _, _, .nil => ⟨rfl, rfl, fun b h => by cases h⟩
  | _, _, .cons r t => by
    obtain ⟨a1, a2, a3⟩ := dpAll_zip t
    refine ⟨?_, ?_, fun b hb => ?_⟩
    · simp only [toPys, List.zip_cons_cons, List.map_cons, a1]
    · rw [List.zip_cons_cons, List.map_cons, a2]
    · rw [List.zip_cons_cons] at hb
      rcases List.mem_cons.mp hb with e | hb
      · subst e; exact r
      · exact a3 b hb
theorem rps_of_mem : ∀ {bs : List (V × D)}, (∀ b ∈ bs, Rp g M ρ b.1 b.2) → Rps g M ρ (bs.map fun b => b.1) (bs.map fun b => b.2)
  | [], _ => .nil
  | b :: bs, h => .cons (h b List.mem_cons_self) (rps_of_mem fun c hc => h c (List.mem_cons_of_mem _ hc))
/-- the order of data -/
abbrev srt (ds : List D) : List D := ds.mergeSort (PySem.W.dataLe false toPy)
theorem we_sortL (hu : X.A.units + 80 < cLine) (hg : Gl X "sorted") (hm : X.mg "sorted" = none) (h : WE X e Γ S (fun x S1 => ∃ ds, LstD S1 x ds ∧ okD (.lst ds) = true ∧ PySem.W.AllAlike (ds.map toPy) ∧ PySem.W.Sortable (ds.map toPy) ∧ Φ (.lst (srt ds)) S1) Ξ) (he : starEach [e] X.env = [(false, eval e X.env)] := by rfl) : WE X (.Call (.Name "sorted" p) [e] [] pos) Γ S Φ Ξ :=
  we_call1 (cr_srt hu) hg hm boot_sorted (h.imp fun x S1 ⟨ds, hx, hk, hal, hs, q⟩ ρ M H vs Q ok rs kv => by
    obtain ⟨v, rfl, r⟩ := rps1 rs
    obtain ⟨a, us, e1, q1, ru⟩ := hx.at ok r
    have hp : plainDs ds = true := by simpa [plainD] using okD_plain hk
    have dpa := Rps.dp (M := H) ds us hp (Rps.mono ok.sub (fun _ _ h => h) ds us ru)
    obtain ⟨z1, z2, z3⟩ := dpAll_zip ru
    refine ⟨a, us, toPys ds, by rw [e1], q1, dpa, by rw [toPys_map]; exact hal, by rw [toPys_map]; exact hs, fun d hd => ?_, fun l hl => ?_⟩
    · rw [toPys_map] at hd
      obtain ⟨c, hc, rfl⟩ := List.mem_map.mp hd
      have h1 : depD (.lst ds) ≤ 64 := by
        simp only [okD, Bool.and_eq_true, decide_eq_true_eq] at hk
        exact hk.2
      have h2 : ∀ (l : List D), c ∈ l → depD c ≤ depDs l := by
        intro l
        induction l with
        | nil => intro h; cases h
        | cons x l ih =>
          intro h
          simp only [depDs]
          rcases List.mem_cons.mp h with e | h
          · subst e; omega
          · have := ih h; omega
      have h3 := h2 ds hc
      have h4 := dep_py c
      simp only [depD] at h1
      omega
    · have m1 := List.map_mergeSort (r := PySem.W.dataLe false fun b : V × D => toPy b.2) (s := PySem.W.dataLe false fun b : V × PyData => b.2) (f := fun b : V × D => (b.1, toPy b.2)) (l := us.zip ds) (fun a _ b _ => rfl)
      have m2 := List.map_mergeSort (r := PySem.W.dataLe false fun b : V × D => toPy b.2) (s := PySem.W.dataLe false toPy) (f := fun b : V × D => b.2) (l := us.zip ds) (fun a _ b _ => rfl)
      have e2 : ((us.zip (toPys ds)).mergeSort (PySem.W.dataLe false fun b => b.2)).map (fun b => b.1) = ((us.zip ds).mergeSort (PySem.W.dataLe false fun b : V × D => toPy b.2)).map fun b => b.1 := by
        rw [← z1, ← m1, List.map_map]
        rfl
      have e3 : ((us.zip ds).mergeSort (PySem.W.dataLe false fun b : V × D => toPy b.2)).map (fun b => b.2) = srt ds := by
        rw [m2, z2]
      rw [e2]
      obtain ⟨ok2, t2⟩ := ok.keep (o := .lst (((us.zip ds).mergeSort (PySem.W.dataLe false fun b : V × D => toPy b.2)).map fun b => b.1)) hl
      refine kv _ S1 _ ρ _ _ q t2 ok2 (.lst (SqL.of upd_same) (t2.rps ?_))
      rw [← e3]
      exact rps_of_mem fun b hb => z3 b ((List.mergeSort_perm _ _).mem_iff.mp hb)) (he := he)

/-! ### append, extend -/
theorem we_append (h : WE X o Γ S (fun x S1 => ∃ l, x = .ptr l ∧ (∃ xs, S1[l]? = some (.lst xs)) ∧ WE X e Γ S1 (fun d S2 => ∃ xs, S2[l]? = some (.lst xs) ∧ xs.length ≤ 1000000 ∧ Φ .non (S2.set l (.lst (xs ++ [d])))) Ξ) Ξ)
    (hbase : attributeBase o "append" X.env (eval o X.env) = eval o X.env := by rfl) (hs : starEach [e] X.env = [(false, eval e X.env)] := by rfl)
    (hfew : ((backTo cpos (starEach (e :: []) X.env)).all (fun x => !x.1) && (backToKw cpos (keywordEach [] X.env)).all (fun x => x.1.isSome)
      && decide ((e :: ([] : List Expr)).length + ([] : List Keyword).length + (if ([] : List Keyword).isEmpty then 0 else 1) < 30)) = true := by rfl)
    (hline : (apos.endLine == cpos.line) = true := by rfl) : WE X (.Call (.Attribute o "append" apos) [e] [] cpos) Γ S Φ Ξ :=
  we_bm (T := "list") F.plainAttrs_list F.slot_list_append F.type_list_append (r := rAppend) mt_append (h.imp fun x S1 ⟨l, ex, ⟨xs, hl⟩, h1⟩ => by
    subst ex
    exact ⟨ty_lst (xs := xs) hl, wa_cons (h1.imp fun d S2 ⟨xs, hl, hz, q⟩ => wa_nil (rm_append hl hz q)) hs⟩) hbase hfew hline hs rfl
theorem we_extend (h : WE X o Γ S (fun x S1 => ∃ l, x = .ptr l ∧ (∃ xs, S1[l]? = some (.lst xs)) ∧ WE X e Γ S1 (fun d S2 => ∃ xs l2 ys, S2[l]? = some (.lst xs) ∧ d = .ptr l2 ∧ S2[l2]? = some (.lst ys) ∧ xs.length + ys.length ≤ 1000000 ∧ Φ .non (S2.set l (.lst (xs ++ ys)))) Ξ) Ξ)
    (hbase : attributeBase o "extend" X.env (eval o X.env) = eval o X.env := by rfl) (hs : starEach [e] X.env = [(false, eval e X.env)] := by rfl)
    (hfew : ((backTo cpos (starEach (e :: []) X.env)).all (fun x => !x.1) && (backToKw cpos (keywordEach [] X.env)).all (fun x => x.1.isSome)
      && decide ((e :: ([] : List Expr)).length + ([] : List Keyword).length + (if ([] : List Keyword).isEmpty then 0 else 1) < 30)) = true := by rfl)
    (hline : (apos.endLine == cpos.line) = true := by rfl) : WE X (.Call (.Attribute o "extend" apos) [e] [] cpos) Γ S Φ Ξ :=
  we_bm (T := "list") F.plainAttrs_list F.slot_list_extend F.type_list_extend (r := rExtend) mt_extend (h.imp fun x S1 ⟨l, ex, ⟨xs, hl⟩, h1⟩ => by
    subst ex
    refine ⟨ty_lst (xs := xs) hl, wa_cons (h1.imp fun d S2 ⟨xs, l2, ys, hl, hd, hl2, hz, q⟩ => wa_nil ?_) hs⟩
    intro ρ M H vx vs Q ok rx rs kv
    subst hd
    obtain ⟨a, ea, ra⟩ := rp_ptr rx
    obtain ⟨v, rfl, r⟩ := rps1 rs
    obtain ⟨b, eb, rb⟩ := rp_ptr r
    cases ok.at_ l _ a hl ra with
    | lst q1 r1 =>
      cases ok.at_ l2 _ b hl2 rb with
      | lst q2 r2 =>
        rename_i vl vl2
        obtain ⟨ok4, t4⟩ := ok.put (o := .lst (vl ++ vl2)) (c' := .lst (xs ++ ys)) hl (by intro q; cases q) ra (.lst upd_same (r1.append r2))
        exact ⟨a, b, vl, vl2, ea, by rw [eb], q1, q2, by rw [r1.length, r2.length]; exact Nat.le_trans hz (by decide), kv .non _ .non ρ M _ q t4 ok4 .non⟩) hbase hfew hline hs rfl

/-! ### low <= e <= high -/
theorem we_chain {op op' : CmpOp} {r r' : R2} {a b c : Expr} (ho : OpR X (compareOp op) r) (ho' : OpR X (compareOp op') r') (h : WE X a Γ S (fun x S1 => WE X b Γ S1 (fun y S2 => R2s (gd X) r x y S2 (fun z S3 => ∃ k, z = .bl k ∧ if k = true then WE X c Γ S3 (fun w S4 => R2s (gd X) r' y w S4 Φ) Ξ else Φ (.bl false) S3)) Ξ) Ξ)
    (hm : lastMarks [op, op'] [b, c] = false := by with_unfolding_all rfl) : WE X (.Compare a [op, op'] [b, c] pos) Γ S Φ Ξ :=
  fun σ ρ M H Q W ok sl kv kx tk => PE.s (pe_chain ho ho' (pe_s a) (pe_s b) (pe_s c) hm) (h σ ρ M H _ W ok sl (fun x S1 vx ρ1 M1 H1 h1 t1 ok1 r1 => h1 σ ρ1 M1 H1 _ W ok1 (t1.slots sl) (fun y S2 vy ρ2 M2 H2 h2 t2 ok2 r2 => h2 ρ2 M2 H2 vx vy _ ok2 (t2.rp r1) r2 (fun z S3 vz ρ3 M3 H3 ⟨k, ez, h3⟩ t3 ok3 r3 => by
    subst ez
    refine ⟨k, rp_bl r3, ?_⟩
    cases k with
    | false =>
      rw [if_neg Bool.false_ne_true] at h3 ⊢
      exact kv _ S3 _ ρ3 M3 H3 h3 ((t1.trans t2).trans t3) ok3 (.bl false)
    | true =>
      rw [if_pos rfl] at h3 ⊢
      exact h3 σ ρ3 M3 H3 _ W ok3 (((t1.trans t2).trans t3).slots sl) (fun w S4 vw ρ4 M4 H4 h4 t4 ok4 r4 => h4 ρ4 M4 H4 vy vw Q ok4 ((t3.trans t4).rp r2) r4 (kv.to (((t1.trans t2).trans t3).trans t4))) (kx.to ((t1.trans t2).trans t3)) tk)) (kx.to t1) tk) kx tk)
def leT (ns ms : List Int) : Bool := Ob.lexAt (fun j => decide (ns.getD j 0 = ms.getD j 0)) (fun j => decide (ns.getD j 0 ≤ ms.getD j 0)) (decide (ns.length ≤ ms.length)) 0 (min ns.length ms.length)
theorem ints_rps {g : Gd} {M : Hp} {ρ : List Addr} : ∀ ss : List Int, Rps g M ρ (ss.map V.int) (ss.map D.int)
  | [] => .nil
  | s :: ss => .cons (.int s) (ints_rps ss)
theorem r2_leT {ns ms : List Int} (h : Φ (.bl (leT ns ms)) S) : R2s g (rLeT g.K) (.tup (ns.map D.int)) (.tup (ms.map D.int)) S Φ := fun ρ M H vx vy Q ok rx ry kv => by
  obtain ⟨a, vs, e, s, r⟩ := rp_tup rx
  obtain ⟨b, us, e2, s2, r2⟩ := rp_tup ry
  have := rps_ints r
  have := rps_ints r2
  subst_vars
  exact ⟨a, b, ns, ms, rfl, rfl, seqT ok.sub s, seqT ok.sub s2, kv _ S _ ρ M H h .refl ok (.bl _)⟩

/-! ### a starred target -/
theorem wgs_star {d : D} {ds : List D} {t : Expr} {sp : Pos} {ΦG : List (Option D) → List Cell → Prop} (h : WG X t d Γ S (fun Γ1 S1 => WGs X es ds Γ1 S1 ΦG Ξ) Ξ) (hs : (assignEach (.Starred t sp :: es) X.env).map (·.2) = assign t X.env :: (assignEach es X.env).map (·.2) := by rfl) : WGs X (.Starred t sp :: es) (d :: ds) Γ S ΦG Ξ :=
  fun vs σ ρ M H Q W ok sl r kn kx tk pins s us I rv => by
    rw [hs]
    cases r with
    | @cons v0 vs0 _ _ r1 r2 =>
      cases rv with
      | cons q1 q2 =>
        refine assignInOrder_cons (thn (h _ σ ρ M H (fun σ1 H1 => sGs X es vs0 σ1 H1 Q) W ok sl r1 (fun Γ1 S1 σ1 ρ1 M1 H1 h1 t1 ok1 sl1 pins s us I rv => ?_) kx tk pins s _ I q1) fun _ s1 ⟨σ1, H1, I1, q⟩ => q pins s1 _ I1 q2)
        exact h1 _ σ1 ρ1 M1 H1 Q W ok1 sl1 (t1.rps r2) (kn.to t1) (kx.to t1) tk pins s us I rv
theorem star_items {prog : Program} {w : World} {A : Around} {E : Value → Shared → Prop} {s : Shared} {l : Addr} {items : Array Value} {n i : Nat} {Q : List Value → Shared → Prop} (hl : IsTup s.heap l items) (hh : A.handled = none) (hi : i < n) (hn : n ≤ items.size + 1) (hz : items.size ≤ 16384)
    (h : ∀ (g : Heap) (tk : Nat), (∀ a o, s.heap.get? a = some o → g.get? a = some o) →
      Q (items.toList.take i ++ [.ref g.objs.size] ++ (items.toList.drop i).drop (items.size + 1 - n)) { s with heap := g.push { cls := .type "list", data := .seq ((items.toList.drop i).take (items.size + 1 - n)).toArray }, toks := tk }) : wpAny (model prog w) A (unpackItems (.ref l) n (some i)) Q E s := by
  have below : l < s.heap.objs.size := by
    obtain ⟨o, ho, _⟩ := hl
    exact Heap.lt_size ho
  have apart : l ≠ s.heap.objs.size := Nat.ne_of_lt below
  unfold unpackItems notIterableAtAll
  refine wpAny_bind (wpAny_bind (wpAny_specialOf hl.typeIs slot_tuple_iter.lookup (wpAny_pure ?_)))
  simp only [Bool.false_eq_true, if_false]
  refine wpAny_bind (wpAny_holding (iter_tuple hl ?_))
  refine wpAny_bind (wpAny_holding (draw_tuple apart i 0 _ _ ⟨_, Heap.get?_push_size _ rfl, rfl, rfl⟩ (hl.push _) (by omega) fun g1 it1 sb1 => ?_))
  have tp1 : IsTup g1 l items := (hl.push _).extBut sb1.extBut apart
  rw [Nat.zero_add] at it1
  obtain ⟨x1, gx1, _⟩ := id it1
  obtain ⟨x2, gx2, _⟩ := id tp1
  rw [List.drop_zero]
  have len1 : (items.toList.take i).length = i := by
    rw [List.length_take, Array.length_toList]
    omega
  have len2 : (items.toList.drop i).length = items.size - i := by rw [List.length_drop, Array.length_toList]
  rw [if_neg (show ¬ ((items.toList.take i).length < i) by rw [len1]; omega)]
  refine wpAny_bind (wpAny_holding (PySem.W.kun_collect (s := { s with heap := g1 }) (T := "tuple_iterator") (.inr (.inr (.inr rfl))) (Walks.tuple (A := A.in1) hh s.heap.objs.size l apart items) (fun j u st => st.1.typeIs) (k := i) (by omega) ⟨it1, tp1⟩ (Heap.lt_size gx1) (Heap.lt_size gx2)
    (fun g2 tk kp => ?_) (by rw [sizeLine_eq]; omega)))
  have many : (items.toList.drop i).length - (n - 1 - i) = items.size + 1 - n := by
    rw [len2]
    omega
  show wpAny _ _ (if (items.toList.drop i).length < n - 1 - i then _ else _) _ _ _
  rw [if_neg (by rw [len2]; omega)]
  show wpAny _ _ (newList ((items.toList.drop i).take ((items.toList.drop i).length - (n - 1 - i))) >>= fun d => pure (items.toList.take i ++ [d] ++ (items.toList.drop i).drop ((items.toList.drop i).length - (n - 1 - i)))) _ _ _
  rw [many]
  have k2 : ∀ a o, s.heap.get? a = some o → g2.get? a = some o := fun a o e => kp a o (Nat.ne_of_lt (Heap.lt_size e)) (sb1.extBut a o (Nat.ne_of_lt (Heap.lt_size e)) (Heap.get?_push_of_some _ e))
  refine wpAny_bind (wpAny_newList (wpAny_pure (h g2 tk k2)) ?_)
  rw [List.length_take, len2, sizeLine_eq]
  omega
theorem Vals.takeV {vs : List V} {us : List Value} (h : Vals vs us) (n : Nat) : Vals (vs.take n) (us.take n) := by
  induction h generalizing n with
  | nil => simp; exact .nil
  | cons r t ih =>
    cases n with
    | zero => exact .nil
    | succ n => exact .cons r (ih n)
theorem Vals.dropV {vs : List V} {us : List Value} (h : Vals vs us) (n : Nat) : Vals (vs.drop n) (us.drop n) := by
  induction h generalizing n with
  | nil => simp; exact .nil
  | cons r t ih =>
    cases n with
    | zero => exact .cons r t
    | succ n => exact ih n
theorem wg_starT {k n j : Nat} {ds : List D} {ΦG : List (Option D) → List Cell → Prop} (hc : X.calm = true) (hj : j < n) (hn : n ≤ ds.length + 1) (hz : ds.length ≤ 16384) (h : WGs X es (ds.take j ++ [.lst ((ds.drop j).take (ds.length + 1 - n))] ++ (ds.drop j).drop (ds.length + 1 - n)) Γ S ΦG Ξ)
    (hl : (assignEach es X.env).length = n := by rfl) (hst : (assignEach es X.env).findIdx? (·.1) = some j := by rfl) : WG X (.Tuple es k pos) (.tup ds) Γ S ΦG Ξ :=
  fun v σ ρ M H Q W ok sl r kn kx tk pins s u I rv => by
    obtain ⟨a, vs, e1, s1, r1⟩ := rp_tup r
    subst e1
    obtain rfl : u = Value.ref a := rv
    obtain ⟨its, rw', ht, hzz⟩ := I.tuple (seqT ok.sub s1)
    have len : its.length = ds.length := by rw [← rw'.length, r1.length]
    rw [assign_Tuple]
    refine wpAny_bind (wpAny_standAt ?_)
    unfold unpack
    rw [hl, hst]
    refine wpAny_bind (wpAny_holding (star_items ht (I.ok.hd hc) hj (by simp only [List.size_toArray]; omega) (by simp only [List.size_toArray]; omega) fun g tk' kp => ?_))
    simp only [List.size_toArray, len]
    have I1 : Inv X pins σ H { s with heap := g, toks := tk' } := I.kept (t' := tk') kp
    have vm : Vals ((vs.drop j).take (ds.length + 1 - n)) ((its.drop j).take (ds.length + 1 - n)) := Vals.takeV (Vals.dropV rw' j) _
    have hf : H g.objs.size = none := I1.hok.fresh (Nat.le_refl _)
    have I2 : Inv X pins σ (upd H g.objs.size (.lst ((vs.drop j).take (ds.length + 1 - n)))) { s with heap := g.push { cls := .type "list", data := .seq ((its.drop j).take (ds.length + 1 - n)).toArray }, toks := tk' } := by
      refine I1.laid (t' := tk') (fun b o e => Heap.get?_push_of_some _ e) (Nat.le_refl _) ⟨?_, _, 0, vm, Heap.get?_push_size _ rfl⟩
      rw [List.length_take, List.length_drop, r1.length, sizeLine_eq]
      omega
    obtain ⟨ok2, t2⟩ := ok.keep (o := .lst ((vs.drop j).take (ds.length + 1 - n))) hf
    refine h (vs.take j ++ [.ref g.objs.size] ++ (vs.drop j).drop (ds.length + 1 - n)) σ ρ _ _ Q W ok2 (t2.slots sl) ?_ (kn.to t2) (kx.to t2) tk pins _ _ I2 ?_
    · exact ((t2.rps (r1.take j)).append (.cons (.lst (SqL.of upd_same) (t2.rps ((r1.drop j).take _))) .nil)).append (t2.rps ((r1.drop j).drop _))
    · exact ((Vals.takeV rw' j).append (.cons (show RelV (.ref g.objs.size) (.ref g.objs.size) from rfl) .nil)).append (Vals.dropV (Vals.dropV rw' j) _)
end
end Ab
set_option Elab.async false
set_option linter.all false
set_option maxRecDepth 100000
set_option maxHeartbeats 4000000
/-! Dict displays; a def's promise by its body; constants of the module; a call that wants a token. -/
namespace Ab
open PySem PySem.Spec PyProof.Rows L2
section
variable {X : Cx} {Γ : List (Option D)} {S : List Cell} {Φ : D → List Cell → Prop} {Ξ : XP} {o i e f v : Expr} {es : List Expr} {pos apos cpos pos' p : Pos} {g : Gd} {M H : Hp} {ρ : List Addr}
/-! ### {k: v, ..} -/
def sP (X : Cx) (ks : List (Option Expr)) (vs : List Expr) : L2.St → Hp → (List (Key × V) → Hp → Prop) → Prop := fun σ H Q => ∀ (pos : Pos) (pins : List (Addr × Obj)) (s : Shared), Inv X pins σ H s →
  wpAny (model X.prog X.w) X.A (evalPairs (pairTrees ks vs X.env pos)) (fun us s' => ∃ kvV prs H', Inv X pins σ H' s' ∧ KV kvV prs ∧ Carries (mixKind X.prog X.w) us prs ∧ Q kvV H') X.xe s
def WP (X : Cx) : List (Option Expr) → List Expr → List (Option D) → List Cell → (List (Key × D) → List Cell → Prop) → XP → Prop
  | some k :: ks, v :: vs, Γ, S, Φ, Ξ => WE X k Γ S (fun y S1 => ∃ key, y = keyD key ∧ WE X v Γ S1 (fun z S2 => WP X ks vs Γ S2 (fun r S3 => Φ ((key, z) :: r) S3) Ξ) Ξ) Ξ
  | [], [], _, S, Φ, _ => Φ [] S
  | _, _, _, _, _, _ => False
theorem wp_run : ∀ {ks : List (Option Expr)} {vs : List Expr} {S : List Cell} {ΦP : List (Key × D) → List Cell → Prop} {σ : L2.St} {ρ : List Addr} {M H : Hp} {W : WX} {Q : List (Key × V) → Hp → Prop}, WP X ks vs Γ S ΦP Ξ → Ok (gd X) S ρ M H → Slots (gd X) M ρ σ Γ → Kx (gd X) S ρ M H Ξ W → Takes X W →
    (∀ r kvV S' ρ' M' H', ΦP r S' → To S ρ M H S' ρ' M' H' → Ok (gd X) S' ρ' M' H' → RK (gd X) M' ρ' kvV r → Q kvV H') → sP X ks vs σ H Q
  | [], [], S, ΦP, σ, ρ, M, H, W, Q, h, ok, sl, kx, tk, k => fun pos pins s I => wpAny_pure ⟨[], [], H, I, .nil, trivial, k [] [] S ρ M H h .refl ok RK.nil⟩
  | [], _ :: _, _, _, _, _, _, _, _, _, h, _, _, _, _, _ => (show False from h).elim
  | none :: _, _, _, _, _, _, _, _, _, _, h, _, _, _, _, _ => (show False from h).elim
  | some _ :: _, [], _, _, _, _, _, _, _, _, h, _, _, _, _, _ => (show False from h).elim
  | some kx0 :: ks, v :: vs, S, ΦP, σ, ρ, M, H, W, Q, h, ok, sl, kx, tk, k => fun pos pins s I => by
    show wpAny _ _ (eval kx0 X.env >>= fun kv => holding [kv] (do let x ← eval v X.env; standAt pos; pure x) >>= fun vv => (holding [kv, vv] (evalPairs (pairTrees ks vs X.env pos))) >>= fun r => pure ((kv, vv) :: r)) _ _ s
    refine wpAny_bind (thn ((pe_s kx0).run pins s σ H _ I ((show WE X kx0 Γ S _ Ξ from h) σ ρ M H (fun vy H1 => ∃ key, vy = kV key ∧ sE X v σ H1 fun vz H2 => sP X ks vs σ H2 fun r H3 => Q ((key, vz) :: r) H3) W ok sl (fun y S1 vy ρ1 M1 H1 ⟨key, ey, h1⟩ t1 ok1 r1 => ?_) kx tk)) fun u s1 ⟨vy, H1, I1, ru, key, ey, q1⟩ => ?_)
    · subst ey
      refine ⟨key, key_of_rp r1, h1 σ ρ1 M1 H1 _ W ok1 (t1.slots sl) (fun z S2 vz ρ2 M2 H2 h2 t2 ok2 r2 => wp_run h2 ok2 ((t1.trans t2).slots sl) (kx.to (t1.trans t2)) tk fun r kvV S3 ρ3 M3 H3 h3 t3 ok3 r3 => ?_) (kx.to t1) tk⟩
      exact k _ _ S3 ρ3 M3 H3 h3 ((t1.trans t2).trans t3) ok3 (.cons rfl (t3.rp r2) r3)
    · subst ey
      refine wpAny_bind (wpAny_holding (wpAny_bind (thn ((pe_s v).run pins s1 σ H1 _ I1 q1) fun u2 s2 ⟨vz, H2, I2, ru2, q2⟩ => wpAny_bind (wpAny_standAt (wpAny_pure ?_)))))
      refine wpAny_bind (wpAny_holding (thn (q2 pos pins s2 I2) fun us s3 ⟨kvV, prs, H3, I3, rk, ca, q3⟩ => wpAny_pure ?_))
      exact ⟨(key, vz) :: kvV, (key, u2) :: prs, H3, I3, .cons ⟨rfl, ru2⟩ rk, ⟨kV_is ru, rfl, ca⟩, q3⟩
theorem we_disp {ks : List (Option Expr)} {vs : List Expr} (h : WP X ks vs Γ S (fun r S' => Φ (.ptr S'.length) (S' ++ [cK (mergeA [] r)])) Ξ) (h0 : ks ≠ [] := by intro z; cases z) (hall : ks.all (·.isSome) = true := by rfl) (hl : ks.length = vs.length := by rfl) (hlen : ks.length ≤ 15 := by decide) : WE X (.Dict ks vs pos) Γ S Φ Ξ :=
  fun σ ρ M H Q W ok sl kv kx tk pins s I => by
    have hn := pairTrees_length ks vs X.env pos hall hl
    have hp0 : pairTrees ks vs X.env pos ≠ [] := by
      intro he
      rw [he] at hn
      exact h0 (List.length_eq_zero_iff.mp hn.symm)
    refine wpAny_Dict_pairs (knd := mixKind X.prog X.w) (zip_pairTrees ks vs X.env pos hall hl) hp0 (by rw [hn]; exact hlen) ?_
    have hf : H s.heap.objs.size = none := I.hok.fresh (Nat.le_refl _)
    generalize hp : s.heap.objs.size = p at hf ⊢
    have I1 : Inv X pins σ (upd H p (.dK [])) { s with heap := s.heap.push { cls := .type "dict", data := .dict #[] } } := by
      refine I.laid (t' := s.toks) (fun b o e => Heap.get?_push_of_some _ e) (Nat.le_of_eq hp) ?_
      rw [← hp]
      exact dk_empty s.heap I.big
    have pr := Priv.new (H' := H) ok hf
    have ok1 : Ok (gd X) S ρ M (upd H p (.dK [])) := ok.priv pr
    have kx1 : Kx (gd X) S ρ M (upd H p (.dK [])) Ξ W := fun x Γ' S' σ' ρ' M' H' od q t ok' sl' xr => by
      refine kx x Γ' S' σ' ρ' M' H' od q ?_ ok' sl' xr
      have t0 : To S ρ M H S ρ M (upd H p (.dK [])) := ⟨fun _ _ h => h, fun _ _ h => h, fun a u e _ => by rw [upd_ne (ne_of_none e hf)]; exact e, fun a h => .inl h, fun a h => .inr h⟩
      exact t0.trans t
    refine wpAny_mono (wpAny_evalPairs_len (wp_run h ok1 sl kx1 tk (Q := fun kvV H1 => H1 p = some (.dK []) ∧ Q (.ref p) (upd H1 p (.dK (mergeK [] kvV)))) (fun r kvV S' ρ' M' H' hΦ t ok' rk => ?_) pos pins _ I1)) (fun us s1 ⟨hus, kvV, prs, H1, I2, rk, ca, ep, q⟩ => ?_) fun _ _ z => z
    · obtain ⟨t1, e1⟩ := (To'.start ok hf).step hf ⟨_, upd_same⟩ t
      have e2 : H' p = some (.dK []) := by rw [e1, upd_same]
      refine ⟨e2, ?_⟩
      have pre : ∀ (l : Nat) (a : Addr), ρ'[l]? = some a → (ρ' ++ [p])[l]? = some a := fun l a h => by
        rw [List.getElem?_append_left (List.getElem?_eq_some_iff.mp h).1]
        exact h
      have t2 := t1.put (o := .dK (mergeK [] kvV)) hf
      have ok2 := t1.ok (o := .dK (mergeK [] kvV)) ok'
      have rk2 : RK (gd X) M' ρ' (mergeK [] kvV) (mergeA [] r) := RK.nil.merge rk
      obtain ⟨t3, ok3⟩ := t2.cell hf ok2 (c := cK (mergeA [] r)) ((rk2.mono (fun _ _ h => h) pre).cell upd_same)
      exact kv _ _ _ _ _ _ hΦ t3 ok3 (.ptr (by rw [← ok'.len]; simp))
    · obtain ⟨z, hd, vs', rel, dd⟩ := dk_of I2.hok ep
      have : vs' = [] := List.length_eq_zero_iff.mp rel.length.symm
      subst this
      refine ⟨prs, ca, dd, fun h' dd' hs => ?_⟩
      have he : ∃ q, h'.get? p = some q := let ⟨q, _, _, hq, _⟩ := dd'; ⟨q, hq⟩
      have hlen : (mergeK [] kvV).length ≤ sizeLine := by
        refine Nat.le_trans (length_mergeK kvV []) ?_
        have l1 := rk.length
        have l2 := ca.length
        rw [List.length_nil, Nat.zero_add, sizeLine_eq]
        omega
      exact ⟨.ref p, _, d_write I2 (by rw [ep]; exact True.intro) hs he (dk_new hlen hd (KV.merge rk .nil) dd'), rfl, q⟩
end

/-! ### a def's promise -/
theorem fnS_of {P : Program} {w : World} {K : PySem.W.Frag} {mg : Str → Option Value} {base : Heap} {x qual : Str} {params : Arguments} {body : List Stmt} {scope : Scope} {f : Addr} {fd : FuncData} {N ps : List Str} {k : Nat} (F : FunD K x qual params body scope [] [] f fd) (Sc : FnScope N ps scope) (c : Ct)
    (len : ∀ ds S Φ Ψ, c ds S Φ Ψ → ds.length = ps.length)
    (hbody : ∀ (cdv : Value) (A : Around) (outer : List Env) (s : Shared) (H : Hp) (E : XK), Room k (A.deeper (envOfC qual scope s.heap.objs.size f cdv)) → ∀ ds S Φ Ψ, c ds S Φ Ψ →
      WB (cxOf (L2.CX P w) P w K mg base N qual scope f cdv A outer s H E) body (ds.map some ++ List.replicate (N.length - ps.length) none) S ⟨fun _ S' => Φ .non S', Φ, fun x _ S' => Ψ x S', fun _ _ => False, fun _ _ => False⟩) :
    FnOk P w K mg base (L2.CX P w) (k + 1) f fd ps (spOf ⟨P, w, K⟩ c) := by
  refine F.ok Sc (fun vs H Q E h => ?_) fun cdv A outer s H vs Q E hr h => ?_
  · obtain ⟨ds, S, ρ, M, Φ, Ψ, ok, rs, hc, kv, kx⟩ := h
    rw [rs.length]
    exact len _ _ _ _ hc
  · obtain ⟨ds, S, ρ, M, Φ, Ψ, ok, rs, hc, kv, kx⟩ := h
    refine ⟨_, pb_s body, hbody cdv A outer s H E hr ds S Φ Ψ hc (start N vs) ρ M H _ ok ?_ ⟨fun Γ' S' σ' ρ' M' H' p t ok' sl' => kv .non S' .non ρ' M' H' p t ok' .non, kv, fun _ _ _ _ _ _ p => p.elim, fun _ _ _ _ _ _ p => p.elim, (fun C od _ H => E C od H), fun x Γ' S' σ' ρ' M' H' od p t ok' sl' xr => kx x S' ρ' M' H' od p t ok' xr, takes_of rfl rfl rfl rfl⟩⟩
    have hl : vs.length = ps.length := by rw [rs.length]; exact len _ _ _ _ hc
    have go : ∀ {vs : List V} {ds : List D} {n : Nat}, Rps ⟨P, w, K⟩ M ρ vs ds → Slots ⟨P, w, K⟩ M ρ (vs.map some ++ List.replicate n none) (ds.map some ++ List.replicate n none) := by
      intro vs ds n r
      refine ⟨by simp [r.length], fun i d e => ?_⟩
      by_cases hi : i < ds.length
      · rw [List.getElem?_append_left (by simpa using hi)] at e
        rw [List.getElem?_append_left (by simpa [r.length] using hi)]
        rw [List.getElem?_map] at e
        cases e2 : ds[i]? with
        | none => rw [e2] at e; cases e
        | some d' =>
          rw [e2] at e
          cases e
          obtain ⟨v, ev, rv⟩ := r.get e2
          exact ⟨v, by rw [List.getElem?_map, ev]; rfl, rv⟩
      · rw [List.getElem?_append_right (by simpa using Nat.le_of_not_lt hi)] at e
        have := List.mem_of_getElem? e
        rw [List.mem_replicate] at this
        cases this.2
    show Slots _ M ρ (vs.map some ++ List.replicate (N.length - vs.length) none) _
    rw [hl]
    exact go rs

/-! ### constants of the module -/
def vOf : Value → V
  | .int i _ => .int i
  | .str s _ => .str s
  | .ref a => .ref a
  | .bool b => .bl b
  | _ => .non
mutual
def valB (K : PySem.W.Frag) : Value → D → Bool
  | .int i _, .int j => decide (i = j)
  | .str s _, .str z => decide (s = z)
  | .ref a, .tup ds => match K.lookup a with
    | some o => decide (o.cls = .type "tuple") && (match o.data with | .seq its _ => decide (its.size ≤ 1000) && valsB K its.toList ds | _ => false)
    | none => false
  | _, _ => false
def valsB (K : PySem.W.Frag) : List Value → List D → Bool
  | [], [] => true
  | u :: us, d :: ds => valB K u d && valsB K us ds
  | _, _ => false
end
mutual
theorem valB_ok {g : Gd} : ∀ (d : D) (u : Value), valB g.K u d = true → RelV (vOf u) u ∧ ∀ M ρ, Rp g M ρ (vOf u) d
  | .int j, u, h => by
    cases u with
    | int i t =>
      have : i = j := by simpa [valB] using h
      subst this
      exact ⟨⟨t, rfl⟩, fun M ρ => .int i⟩
    | _ => simp [valB] at h
  | .str z, u, h => by
    cases u with
    | str s t =>
      have : s = z := by simpa [valB] using h
      subst this
      exact ⟨⟨t, rfl⟩, fun M ρ => .str s⟩
    | _ => simp [valB] at h
  | .tup ds, u, h => by
    cases u with
    | ref a =>
      unfold valB at h
      cases e : g.K.lookup a with
      | none => rw [e] at h; cases h
      | some o =>
        rw [e] at h
        simp only [Bool.and_eq_true, decide_eq_true_eq] at h
        obtain ⟨h1, h2⟩ := h
        cases e2 : o.data with
        | seq its n =>
          rw [e2] at h2
          simp only [Bool.and_eq_true, decide_eq_true_eq] at h2
          obtain ⟨v1, v2⟩ := valsB_ok ds its.toList h2.2
          exact ⟨rfl, fun M ρ => .tup (.inr ⟨o, its, n, e, h1, e2, Nat.le_trans h2.1 (by decide), v1⟩) (v2 M ρ)⟩
        | _ => rw [e2] at h2; cases h2
    | _ => simp [valB] at h
  | .non, u, h => by cases u <;> simp [valB] at h
  | .bl _, u, h => by cases u <;> simp [valB] at h
  | .ref _, u, h => by cases u <;> simp [valB] at h
  | .ty _, u, h => by cases u <;> simp [valB] at h
  | .ptr _, u, h => by cases u <;> simp [valB] at h
  | .ptup _, u, h => by cases u <;> simp [valB] at h
  | .lst _, u, h => by cases u <;> simp [valB] at h
  | .dic _ _ _, u, h => by cases u <;> simp [valB] at h
theorem valsB_ok {g : Gd} : ∀ (ds : List D) (us : List Value), valsB g.K us ds = true → Vals (us.map vOf) us ∧ ∀ M ρ, Rps g M ρ (us.map vOf) ds
  | [], [], _ => ⟨.nil, fun M ρ => .nil⟩
  | d :: ds, u :: us, h => by
    simp only [valsB, Bool.and_eq_true] at h
    obtain ⟨a1, a2⟩ := valB_ok d u h.1
    obtain ⟨b1, b2⟩ := valsB_ok ds us h.2
    exact ⟨.cons a1 b1, fun M ρ => .cons (a2 M ρ) (b2 M ρ)⟩
  | [], _ :: _, h => by simp [valsB] at h
  | _ :: _, [], h => by simp [valsB] at h
end
end Ab
set_option Elab.async false
set_option linter.all false
set_option maxRecDepth 100000
set_option maxHeartbeats 4000000
/-! A def whose body replaces in texts, called where a token is out. -/
namespace Ab
open PySem PySem.Spec PyProof.Rows L2
/-- as FnOk, a token is out -/
structure FnT (P : Program) (w : World) (K : PySem.W.Frag) (mg : Str → Option Value) (base : Heap) (k : Nat) (f : Addr) (fd : FuncData) (ps : List Str) (sp : Sp) : Prop where
  len : ∀ vs H Q E, sp vs H Q E → vs.length = ps.length
  run : ∀ (A : Around) (outer : List Env) (s : Shared) (H : Hp) (args : Args) (us : List Value) (vs : List V) (Q : VK) (E : XK), 1 ≤ s.toks → Room k A → Env0 P w K mg base A outer s H → BindsTo s fd args (ps.zip us) → Vals vs us → sp vs H Q E →
    codeAny (model P w) A (.call (.ref f) args) (CR (L2.CX P w) outer P w H s Q E) s
theorem fnT_of {P : Program} {w : World} {K : PySem.W.Frag} {mg : Str → Option Value} {base : Heap} {x qual : Str} {params : Arguments} {body : List Stmt} {scope : Scope} {f : Addr} {fd : FuncData} {N ps : List Str} {k : Nat} {sp : Sp} (F : FunD K x qual params body scope [] [] f fd) (Sc : FnScope N ps scope)
    (len : ∀ vs H Q E, sp vs H Q E → vs.length = ps.length)
    (hbody : ∀ (cdv : Value) (A : Around) (outer : List Env) (s : Shared) (H : Hp) (vs : List V) (Q : VK) (E : XK), Room k (A.deeper (envOfC qual scope s.heap.objs.size f cdv)) → sp vs H Q E →
      ∃ t, PSsT (cxOf (L2.CX P w) P w K mg base N qual scope f cdv A outer s H E) body t ∧ t { nx := fun _ H' => Q .non H', rt := Q } (start N vs) H) : FnT P w K mg base (k + 1) f fd ps sp := by
  obtain ⟨oc, od, dV, kV, doc, pm, an, cdv, ct, osl, rfl, lk, hcd, _, _⟩ := F.ex
  refine ⟨len, fun A outer s H args us vs Q E h1 hr e0 hb r hsp => ?_⟩
  have hl := len _ _ _ _ hsp
  have KX : K.In s.heap := e0.mod.kin.keeps fun b o e => (e0.bs b o e).1
  have lim : s.heap.NoLimit := e0.mod.nolimit.keeps fun b o e => (e0.bs b o e).1
  have kinds : ∀ y ∈ ps.zip us, scope.names.lookup y.1 = some .local ∨ (scope.names.lookup y.1 = some .cell ∧ ((cellsFrom (s.heap.objs.size + 1) scope.names []).lookup y.1).isSome = true) := by
    rintro ⟨n, v⟩ hy
    rcases Sc.par n (List.of_mem_zip hy).1 with q | q
    · exact .inl q
    · exact .inr ⟨q, PySem.W.cellsFrom_some _ _ _ (.inl q)⟩
  refine codeAny_call_function hr.depth (KX _ _ lk) rfl Sc.co Sc.gen rfl (PySem.W.codeRec_of KX hcd) (hb _ _ _ _ ?_)
  refine wpAny_with_toks h1 (wpAny_newFunctionEnv_cells Sc.kind kinds fun env he s1 xx hk => ?_)
  subst he
  refine ⟨lim.keeps xx.toInCall.keep,
    codeAny_func ?_⟩
  obtain ⟨t, ht, hq⟩ := hbody cdv A outer s H vs Q E (hr.deeper _) hsp
  have I := inv_start (CX := L2.CX P w) (E := E) Sc hr.hd e0 hl r xx
  refine wpAny_mono (ht [] s1 (start N vs) H _ hk I hq) (fun fl s' hs => ?_) fun e s' hs => hs
  have fin : ∀ {σ' : L2.St} {H' : Hp} {v : V} {u : Value}, Inv (cxOf (L2.CX P w) P w K mg base N qual scope f cdv A outer s H E) [] σ' H' s' → RelV v u → Q v H' → CE outer P w H s Q u s' := by
    intro σ' H' v u J rv q
    exact ⟨v, H', J.os, J.bare, J.base, J.hok, rv, q⟩
  cases fl with
  | ret u =>
    obtain ⟨v, σ', H', J, rv, q⟩ := hs
    exact fin J rv q
  | next =>
    obtain ⟨σ', H', J, q⟩ := hs
    exact fin (v := V.non) (u := Value.none) J rfl q
  | brk =>
    obtain ⟨_, _, _, q⟩ := hs
    exact q.elim
  | cont =>
    obtain ⟨_, _, _, q⟩ := hs
    exact q.elim
def foldS (x : Str) : Str := Txt.replace (Txt.replace x "~" "~~") "\n" "~n"
def spFold : Sp := fun vs H Q _ => ∃ x : Str, vs = [.str x] ∧ x.length ≤ 100000 ∧ Q (.str (foldS x)) H
theorem fold_len (x : Str) : (foldS x).length ≤ 9 * x.length + 10 := by
  unfold foldS
  have h1 := TK.replace_len x "~" "~~"
  have h2 := TK.replace_len (Txt.replace x "~" "~~") "\n" "~n"
  have e1 : ("~~" : Str).length = 2 := rfl
  have e2 : ("~n" : Str).length = 2 := rfl
  rw [e1] at h1
  rw [e2] at h2
  omega
theorem fold_ok {P : Program} {w : World} {K : PySem.W.Frag} {mg : Str → Option Value} {base : Heap} {x qual tx : Str} {params : Arguments} {scope : Scope} {f : Addr} {fd : FuncData} {p1 p2 p3 p4 c0 c1 c2 c3 rp rr : Pos} {j0 j1 j2 j3 : Nat}
    (F : FunD K x qual params [.Return (some (.Call (.Attribute (.Call (.Attribute (.Name tx p1) "replace" p2) [.Constant (.str "~") j0 c0, .Constant (.str "~~") j1 c1] [] p3) "replace" p4) [.Constant (.str "\n") j2 c2, .Constant (.str "~n") j3 c3] [] rp)) rr] scope [] [] f fd)
    (Sc : FnScope [tx] [tx] scope) (hv : scope.names.lookup tx = some .local) (hd : (tx == ("__debug__" : Str)) = false) (hcd : (tx == ("__classdict__" : Str)) = false) (l1 : (p2.endLine == p3.line) = true) (l2 : (p4.endLine == rp.line) = true) : FnT P w K mg base 1 f fd [tx] spFold := by
  refine fnT_of F Sc (fun vs H Q E h => ?_) fun cdv A outer s H vs Q E hr h => ?_
  · obtain ⟨x, rfl, _⟩ := h
    rfl
  · obtain ⟨x, rfl, hz, q⟩ := h
    refine ⟨_, CwR.psst_one (CwR.pst_ret (CwR.pet_replT (CwR.pet_replC (pe_var (i := 0) rfl (.inl hv) hd hcd) rfl rfl rfl l1) rfl rfl rfl l2)), ?_⟩
    have b1 := TK.replace_len x "~" "~~"
    have e1 : ("~~" : Str).length = 2 := rfl
    have e2 : ("~n" : Str).length = 2 := rfl
    refine ⟨.str x, rfl, x, rfl, ?_, Txt.replace x "~" "~~", rfl, ?_, q⟩
    · rw [e1]
      omega
    · rw [e1] at b1
      rw [e2]
      omega
section
variable {X : Cx} {Γ : List (Option D)} {S : List Cell} {Φ : D → List Cell → Prop} {Ξ : XP} {e : Expr} {k : Nat} {f : Addr} {fd : FuncData} {ps : List Str}
theorem run_fnT {pins : List (Addr × Obj)} {σ : L2.St} {H : Hp} {s : Shared} {Q : VK} {E : L2.St → XK} {us : List Value} {vs : List V} {sp : Sp} (F : FnT X.prog X.w X.K X.mg X.base k f fd ps sp) (h1 : 1 ≤ s.toks) (hr : Room k X.A) (hb : Binds X.K fd ps []) (hx : PassesAt (L2.CX X.prog X.w) X σ (E σ))
    (I : Inv X pins σ H s) (r : Vals vs us) (h : sp vs H Q (E σ)) : wpAny (model X.prog X.w) X.A (call (.ref f) us) (EP X pins σ Q) X.xe s := by
  have hl : us.length = ps.length := by rw [← r.length]; exact F.len _ _ _ _ h
  have b := hb s us I.kIn (by rw [List.append_nil]; exact hl)
  rw [List.append_nil] at b
  refine wpAny_call (codeAny_mono (F.run X.A X.stack s H ⟨us, []⟩ us vs Q (E σ) h1 hr I.env0 b r h) fun c s' hq => ?_)
  cases c with
  | error e => exact hx pins H s e s' I hq
  | ok fl =>
    cases fl with
    | ret u => exact I.after hq
    | next => exact hq.elim
    | brk => exact hq.elim
    | cont => exact hq.elim
/-- f'..' + folded(e) -/
theorem we_plusT {v1 v2 : Expr} {rest : List Expr} {x : Str} {pj pn pc pos : Pos} (F : FnT X.prog X.w X.K X.mg X.base k f fd ps spFold) (hr : Room k X.A) (hm : X.mg x = some (.ref f)) (hk : PySem.W.keepIn X.K (.ref f) = true) (hb : Binds X.K fd ps [])
    (h : WJ X (v1 :: v2 :: rest) Str.empty Γ S (fun s S1 => WE X e Γ S1 (fun d S2 => ∃ z : Str, d = .str z ∧ z.length ≤ 100000 ∧ s.length + (foldS z).length ≤ 16777216 ∧ Φ (.str (s ++ foldS z)) S2) Ξ) Ξ)
    (hg : Gl X x := by rfl) (hdb : (x == ("__debug__" : Str)) = false := by decide) (he : starEach [e] X.env = [(false, eval e X.env)] := by rfl) : WE X (.BinOp (.JoinedStr (v1 :: v2 :: rest) pj) .Add (.Call (.Name x pn) [e] [] pc) pos) Γ S Φ Ξ :=
  fun σ ρ M H Q W ok sl kv kx tk pins s I => by
    have key1 : wpAny (model X.prog X.w) X.A (eval (.JoinedStr (v1 :: v2 :: rest) pj) X.env) (fun v s' => 1 ≤ s'.toks ∧ ∃ out t H1, v = Value.str out t ∧ Inv X pins σ H1 s' ∧ ∃ S1 ρ1 M1,
        WE X e Γ S1 (fun d S2 => ∃ z : Str, d = .str z ∧ z.length ≤ 100000 ∧ out.length + (foldS z).length ≤ 16777216 ∧ Φ (.str (out ++ foldS z)) S2) Ξ ∧ To S ρ M H S1 ρ1 M1 H1 ∧ Ok (gd X) S1 ρ1 M1 H1) X.xe s := by
      refine wpAny_JoinedStr (pj_run (pj_s (v1 :: v2 :: rest)) Str.empty s H (fun out H1 => ∃ S1 ρ1 M1,
        WE X e Γ S1 (fun d S2 => ∃ z : Str, d = .str z ∧ z.length ≤ 100000 ∧ out.length + (foldS z).length ≤ 16777216 ∧ Φ (.str (out ++ foldS z)) S2) Ξ ∧ To S ρ M H S1 ρ1 M1 H1 ∧ Ok (gd X) S1 ρ1 M1 H1) _ (Nat.zero_le _) I
        (wj_run h ok sl kx tk fun out S1 ρ1 M1 H1 p t ok' => ⟨S1, ρ1, M1, p, t, ok'⟩) fun out s1 H1 hz I1 q1 => ?_)
      exact ⟨hz, Nat.succ_le_succ (Nat.zero_le _), out, _, H1, rfl, I1.tok _, q1⟩
    refine wpAny_BinOp (thn key1 fun v s1 ⟨h1, out, t, H1, ev, I1, S1, ρ1, M1, hw, t1, ok1⟩ => ?_)
    subst ev
    have key : wpAny (model X.prog X.w) X.A (eval (.Call (.Name x pn) [e] [] pc) X.env) (EP X pins σ fun y H2 => ∃ z, y = .str z ∧ out.length + z.length ≤ 16777216 ∧ Q (.str (out ++ z)) H2) X.xe s1 := by
      refine wpAny_Call_Name_kw (ld_glob I1 hg hm ?_ hdb)
      have ha : WA X [e] Γ S1 (fun ds S2 => ∃ z : Str, ds = [.str z] ∧ z.length ≤ 100000 ∧ out.length + (foldS z).length ≤ 16777216 ∧ Φ (.str (out ++ foldS z)) S2) Ξ := wa_cons (hw.imp fun d S2 ⟨z, ed, hz, hl, p⟩ => wa_nil ⟨z, by rw [ed], hz, hl, p⟩) he
      refine PySem.W.callWith_K (h₀ := X.base) I1.ok.mod.kin hk (wpAny_with_toks h1 (wpAny_mono (ha σ ρ1 M1 H1 (fun vs H2 => spFold vs H2 (fun y H2 => ∃ z, y = .str z ∧ out.length + z.length ≤ 16777216 ∧ Q (.str (out ++ z)) H2) (L2.WE W σ)) W ok1 (t1.slots sl) (fun ds S2 vs ρ2 M2 H2 ⟨z, ed, hz, hl, p⟩ t2 ok2 r2 => ?_) (kx.to t1) tk pc pins s1 I1) (fun us s2 ⟨vs, H2, I2, r, q⟩ hk2 => ⟨I2.kIn, ?_⟩) fun _ _ z _ => z)) he rfl
      · subst ed
        obtain ⟨v, rfl, r3⟩ := rps1 r2
        exact ⟨z, by rw [rp_str r3], hz, foldS z, rfl, hl, kv _ S2 _ ρ2 M2 H2 p (t1.trans t2) ok2 (.str _)⟩
      · exact run_fnT F hk2 hr hb (passAt tk σ) I2 r q
    refine thn key fun u s2 ⟨y, H2, I2, r2, z, ez, hz, q⟩ => ?_
    subst ez
    exact op_add_str pins s2 σ H2 (.str out) (.str z) _ u Q I2 ⟨t, rfl⟩ r2 ⟨out, z, rfl, rfl, hz, q⟩
end
end Ab
set_option Elab.async false
set_option linter.all false
set_option maxRecDepth 100000
set_option maxHeartbeats 4000000
/-! Functions and methods by their promises. -/
namespace Ab
open PySem PySem.Spec PyProof.Rows L2
/-- the module's name x stands for a def that keeps the promise c -/
def Has (P : Program) (w : World) (K : PySem.W.Frag) (mg : Str → Option Value) (base : Heap) (k : Nat) (x : Str) (ps : List Str) (c : Ct) : Prop :=
  ∃ f fd, FnOk P w K mg base (L2.CX P w) k f fd ps (spOf ⟨P, w, K⟩ c) ∧ mg x = some (.ref f) ∧ PySem.W.keepIn K (.ref f) = true ∧ Binds K fd ps []
def HasT (P : Program) (w : World) (K : PySem.W.Frag) (mg : Str → Option Value) (base : Heap) (k : Nat) (x : Str) (ps : List Str) (sp : Sp) : Prop :=
  ∃ f fd, FnT P w K mg base k f fd ps sp ∧ mg x = some (.ref f) ∧ PySem.W.keepIn K (.ref f) = true ∧ Binds K fd ps []
/-- .. the method m of the class C -/
def HasM (P : Program) (w : World) (K : PySem.W.Frag) (mg : Str → Option Value) (base : Heap) (k : Nat) (C : Addr) (m : Str) (ps : List Str) (c : Ct) : Prop :=
  ∃ f fd, FnOk P w K mg base (L2.CX P w) k f fd ps (spOf ⟨P, w, K⟩ c) ∧ Meth K C m f ∧ Binds K fd ps []
section
variable {X : Cx} {Γ : List (Option D)} {S : List Cell} {Φ : D → List Cell → Prop} {Ξ : XP} {o e : Expr} {es : List Expr} {k : Nat} {x m : Str} {ps : List Str} {c : Ct} {C : Addr} {p pos apos : Pos}
theorem we_callH (h : Has X.prog X.w X.K X.mg X.base k x ps c) (hr : Room k X.A) (hw : WA X (e :: es) Γ S (fun ds S1 => c ds S1 Φ (fun x S' => Ξ x Γ S')) Ξ)
    (hg : Gl X x := by rfl) (hdb : (x == ("__debug__" : Str)) = false := by decide) (he : starEach (e :: es) X.env = (false, eval e X.env) :: starEach es X.env := by rfl) (hpl : (backTo pos (starEach es X.env)).any (·.1) = false := by rfl) : WE X (.Call (.Name x p) (e :: es) [] pos) Γ S Φ Ξ := by
  obtain ⟨f, fd, F, hm, hk, hb⟩ := h
  exact we_call F hr hm hk hb hw hg hdb he hpl
theorem we_plusH {v1 v2 : Expr} {rest : List Expr} {pj pn pc pos : Pos} (hh : HasT X.prog X.w X.K X.mg X.base k x ps spFold) (hr : Room k X.A)
    (h : WJ X (v1 :: v2 :: rest) Str.empty Γ S (fun s S1 => WE X e Γ S1 (fun d S2 => ∃ z : Str, d = .str z ∧ z.length ≤ 100000 ∧ s.length + (foldS z).length ≤ 16777216 ∧ Φ (.str (s ++ foldS z)) S2) Ξ) Ξ)
    (hg : Gl X x := by rfl) (hdb : (x == ("__debug__" : Str)) = false := by decide) (he : starEach [e] X.env = [(false, eval e X.env)] := by rfl) : WE X (.BinOp (.JoinedStr (v1 :: v2 :: rest) pj) .Add (.Call (.Name x pn) [e] [] pc) pos) Γ S Φ Ξ := by
  obtain ⟨f, fd, F, hm, hk, hb⟩ := hh
  exact we_plusT F hr hm hk hb h hg hdb he
theorem we_methH {pl : Sem Bool} (h : HasM X.prog X.w X.K X.mg X.base k C m ps c) (cl : Cls X.K C) (hr : Room k X.A)
    (hw : WE X o Γ S (fun y S1 => (∃ fs, InsD S1 y C fs ∧ fs.lookup m = none) ∧ WA X (e :: es) Γ S1 (fun ds S2 => c (y :: ds) S2 Φ (fun x S' => Ξ x Γ S')) Ξ) Ξ)
    (hst : starEach (e :: es) X.env = (false, eval e X.env) :: starEach es X.env := by rfl) (hpl : (backTo pos (starEach es X.env)).any (·.1) = false := by rfl)
    (ht : eval (.Call (.Attribute o m apos) (e :: es) [] pos) X.env = (do
      let ov ← eval o X.env
      standAt apos.atName
      let (f, first) ← holding [ov] (getMethod ov m pl)
      callWith pos f first (backTo pos (starEach (e :: es) X.env)) (backToKw pos (keywordEach [] X.env))) := by rfl) : WE X (.Call (.Attribute o m apos) (e :: es) [] pos) Γ S Φ Ξ := by
  obtain ⟨f, fd, F, hm, hb⟩ := h
  exact we_meth cl hm F hr hb hw hst hpl ht
theorem fnH_of {P : Program} {w : World} {K : PySem.W.Frag} {mg : Str → Option Value} {base : Heap} {x qual : Str} {params : Arguments} {body : List Stmt} {scope : Scope} {f : Addr} {fd : FuncData} (N : List Str) {ps : List Str} {k : Nat} (F : FunD K x qual params body scope [] [] f fd) (hm : mg x = some (.ref f)) (c : Ct)
    (hb : ∀ (kV doc pm : Value) (an : Option Addr) (cdv ct : Value) (us : List Value), us.length = ps.length → bindArgs (PySem.W.fnOf x qual params body scope .none kV doc pm an cdv ct) ⟨us, []⟩ = pure (ps.zip us))
    (Sc : FnScope N ps scope)
    (len : ∀ ds S Φ Ψ, c ds S Φ Ψ → ds.length = ps.length)
    (hbody : ∀ (cdv : Value) (A : Around) (outer : List Env) (s : Shared) (H : Hp) (E : XK), Room k (A.deeper (envOfC qual scope s.heap.objs.size f cdv)) → ∀ ds S Φ Ψ, c ds S Φ Ψ →
      WB (cxOf (L2.CX P w) P w K mg base N qual scope f cdv A outer s H E) body (ds.map some ++ List.replicate (N.length - ps.length) none) S ⟨fun _ S' => Φ .non S', Φ, fun x _ S' => Ψ x S', fun _ _ => False, fun _ _ => False⟩) :
    Has P w K mg base (k + 1) x ps c := ⟨f, fd, fnS_of F Sc c len hbody, hm, F.kp, F.bindsN hb⟩
end
end Ab
set_option Elab.async false
set_option linter.all false
set_option maxRecDepth 100000
set_option maxHeartbeats 4000000
/-! What stays of a store; sorted texts; the module's constants. -/
namespace Ab
open PySem PySem.Spec PyProof.Rows L2
/-- S' begins as S -/
structure Keep (S S' : List Cell) : Prop where
  len : S.length ≤ S'.length
  at_ : ∀ l, l < S.length → S'[l]? = S[l]?
section
variable {S S' S2 : List Cell} {c : Cell} {l : Nat}
theorem Keep.refl : Keep S S := ⟨Nat.le_refl _, fun _ _ => rfl⟩
theorem Keep.trans (a : Keep S S') (b : Keep S' S2) : Keep S S2 := ⟨Nat.le_trans a.len b.len, fun l h => (b.at_ l (Nat.lt_of_lt_of_le h a.len)).trans (a.at_ l h)⟩
theorem Keep.push (a : Keep S S') : Keep S (S' ++ [c]) := ⟨by rw [List.length_append]; exact Nat.le_trans a.len (Nat.le_add_right _ _), fun l h => by rw [List.getElem?_append_left (Nat.lt_of_lt_of_le h a.len)]; exact a.at_ l h⟩
theorem Keep.set (a : Keep S S') (h : S.length ≤ l) : Keep S (S'.set l c) := ⟨by rw [List.length_set]; exact a.len, fun j hj => by rw [List.getElem?_set_ne (by omega)]; exact a.at_ j hj⟩
theorem Keep.get (a : Keep S S') (h : S[l]? = some c) : S'[l]? = some c := (a.at_ l (List.getElem?_eq_some_iff.mp h).1).trans h
theorem get_new : (S ++ [c])[S.length]? = some c := by simp
theorem get_set {c' : Cell} (h : S[l]? = some c) : (S.set l c')[l]? = some c' := List.getElem?_set_self (List.getElem?_eq_some_iff.mp h).1
theorem get_set_ne {c' : Cell} {j : Nat} (h : S[l]? = some c) (n : j ≠ l) : (S.set j c')[l]? = some c := by rw [List.getElem?_set_ne n]; exact h
theorem get_push {c' : Cell} (h : S[l]? = some c) : (S ++ [c'])[l]? = some c := by rw [List.getElem?_append_left (List.getElem?_eq_some_iff.mp h).1]; exact h
theorem lt_of_get (h : S[l]? = some c) : l < S.length := (List.getElem?_eq_some_iff.mp h).1
end
/-! ### texts in order -/
abbrev ltS (a b : Str) : Prop := a.cps.toList < b.cps.toList
theorem rising_pw : ∀ (l : List Str) (p : Str), risingS p l = true → (p :: l).Pairwise (fun a b => ¬ ltS b a)
  | [], p, _ => by simp
  | x :: r, p, h => by
    simp only [risingS, Bool.and_eq_true, Bool.not_eq_true'] at h
    have ih := rising_pw r x h.2
    rw [ltCps_eq, decide_eq_false_iff_not] at h
    rw [List.pairwise_cons] at ih ⊢
    refine ⟨fun y hy => ?_, List.pairwise_cons.mpr ih⟩
    rcases List.mem_cons.mp hy with e | hy
    · subst e; exact h.1
    · have h1 := ih.1 y hy
      have a1 : p.cps.toList ≤ x.cps.toList := List.not_lt.mp h.1
      have a2 : x.cps.toList ≤ y.cps.toList := List.not_lt.mp h1
      exact List.not_lt.mpr (List.le_trans a1 a2)
theorem sorted_pw {l : List Str} (h : sortedS l = true) : l.Pairwise (fun a b => ¬ ltS b a) := by
  cases l with
  | nil => simp
  | cons x r => exact rising_pw r x h
theorem str_ext {a b : Str} (h : a.cps.toList = b.cps.toList) : a = b := by
  cases a; cases b
  simp at h
  subst h
  rfl
theorem sorted_eq {ys ks : List Str} (hp : ys.Perm ks) (hs : sortedS ys = true) (ha : ks.Pairwise ltS) : ys = ks := by
  refine List.Perm.eq_of_pairwise (le := fun a b => ¬ ltS b a) (fun a b _ _ h1 h2 => ?_) (sorted_pw hs) (ha.imp fun {a b} h => List.lt_asymm h) hp
  exact str_ext (List.le_antisymm (List.not_lt.mp h1) (List.not_lt.mp h2))
section
variable {X : Cx} {Γ : List (Option D)} {S : List Cell} {Φ : D → List Cell → Prop} {Ξ : XP} {e : Expr} {p pos : Pos} {x : Str}
theorem we_sortedS (hg : Gl X "sorted") (hm : X.mg "sorted" = none) (h : WE X e Γ S (fun x S1 => ∃ ks : List Str, LstD S1 x (ks.map D.str) ∧ ks.length < 64 ∧ ∀ ys : List Str, ys.Perm ks → sortedS ys = true → Φ (.lst (ys.map D.str)) S1) Ξ) (he : starEach [e] X.env = [(false, eval e X.env)] := by rfl) : WE X (.Call (.Name "sorted" p) [e] [] pos) Γ S Φ Ξ :=
  we_call1 cr_sortedS hg hm boot_sorted (h.imp fun x S1 ⟨ks, hx, hz, q⟩ ρ M H vs Q ok rs kv => by
    obtain ⟨v, rfl, r⟩ := rps1 rs
    obtain ⟨a, us, e1, q1, ru⟩ := hx.at ok r
    have := rps_strs ru
    subst this
    refine ⟨a, ks, by rw [e1], q1, hz, fun ys l h1 h2 hl => ?_⟩
    obtain ⟨ok2, t2⟩ := ok.keep (o := .lst (ys.map V.str)) hl
    exact kv _ S1 _ ρ _ _ (q ys h1 h2) t2 ok2 (.lst (SqL.of upd_same) (strs_rps ys))) (he := he)
/-! ### the module's constants -/
def GI (mg : Str → Option Value) (x : Str) (i : Int) : Prop := ∃ t, mg x = some (.int i t)
theorem we_globI {i : Int} (hm : GI X.mg x i) (h : Φ (.int i) S) (hg : Gl X x := by rfl) (hd : (x == ("__debug__" : Str)) = false := by decide) : WE X (.Name x pos) Γ S Φ Ξ := by
  obtain ⟨t, hm⟩ := hm
  exact we_glob (v := .int i) hg hm ⟨t, rfl⟩ (fun M ρ => .int i) h hd
def GD (K : PySem.W.Frag) (mg : Str → Option Value) (x : Str) (d : D) : Prop := ∃ u, mg x = some u ∧ valB K u d = true
theorem we_globD {d : D} (hm : GD X.K X.mg x d) (h : Φ d S) (hg : Gl X x := by rfl) (hd : (x == ("__debug__" : Str)) = false := by decide) : WE X (.Name x pos) Γ S Φ Ξ := by
  obtain ⟨u, hm, hv⟩ := hm
  obtain ⟨r, rp⟩ := valB_ok (g := gd X) d u hv
  exact we_glob hg hm r rp h hd
end
end Ab
set_option Elab.async false
set_option linter.all false
set_option maxRecDepth 100000
set_option maxHeartbeats 4000000
/-! Comprehensions that map and choose; loops that leave nothing. -/
namespace Ab
open PySem PySem.Spec PyProof.Rows L2
theorem take_snoc {α : Type} {l : List α} {i : Nat} {x : α} (h : l[i]? = some x) : l.take (i + 1) = l.take i ++ [x] := by rw [List.take_succ, h]; rfl
theorem lt_of_some {α : Type} {l : List α} {i : Nat} {x : α} (h : l[i]? = some x) : i < l.length := (List.getElem?_eq_some_iff.mp h).1
section
variable {X : Cx} {Γ : List (Option D)} {Ξ : XP} {elt kx vx tg iter : Expr} {ifs : List Expr} {scope : Scope} {vs : List Nat} {pos : Pos} {g : TG} {ds : List D} {G : List Cell → Prop} {S1 : List Cell}
theorem lc_map (f : D → D) {Φ : List D → List Cell → Prop} (hz : ds.length ≤ 1000000) (hG : ∀ S', Keep S1 S' → G S') (h : ∀ (i : Nat) (x : D) (S' : List Cell), ds[i]? = some x → Keep S1 S' → ∃ Γ2, TgC (gd X) vs g x (wipeD Γ vs) Γ2 ∧ WEb X scope elt Γ2 S' fun y S3 => y = f x ∧ Keep S1 S3)
    (fin : ∀ S', Keep S1 S' → Φ (ds.map f) S') : LcI X scope vs g [] elt Γ ds G S1 Φ := by
  refine ⟨fun i acc S' => acc = (ds.take i).map f ∧ Keep S1 S', hz, ⟨rfl, .refl⟩, fun i acc S' hi ⟨e, k⟩ => ⟨hG S' k, ?_⟩, fun i x acc S' hx ⟨e, k⟩ => ?_, fun acc S' ⟨e, k⟩ => ?_⟩
  · subst e; rw [List.length_map, List.length_take]; omega
  · subst e
    obtain ⟨Γ2, t, hw⟩ := h i x S' hx k
    refine ⟨Γ2, t, ?_⟩
    simp only [WTb, ↓reduceIte]
    intro s H0 C cl fp
    refine (hw s H0 C cl fp).imp fun y S3 ⟨e, k3⟩ => ⟨?_, k3⟩
    rw [take_snoc hx, List.map_append, e]
    rfl
  · subst e
    rw [List.take_length]
    exact fin S' k
theorem lc_filter {c : Expr} (p : D → Bool) (f : D → D) {Φ : List D → List Cell → Prop} (hz : ds.length ≤ 1000000) (hG : ∀ S', Keep S1 S' → G S') (h : ∀ (i : Nat) (x : D) (S' : List Cell), ds[i]? = some x → Keep S1 S' → ∃ Γ2, TgC (gd X) vs g x (wipeD Γ vs) Γ2 ∧ WTb X scope [c] Γ2 S' fun b S2 => b = p x ∧ Keep S1 S2 ∧ (p x = true → WEb X scope elt Γ2 S2 fun y S3 => y = f x ∧ Keep S1 S3))
    (fin : ∀ S', Keep S1 S' → Φ ((ds.filter p).map f) S') : LcI X scope vs g [c] elt Γ ds G S1 Φ := by
  refine ⟨fun i acc S' => acc = ((ds.take i).filter p).map f ∧ Keep S1 S', hz, ⟨rfl, .refl⟩, fun i acc S' hi ⟨e, k⟩ => ⟨hG S' k, ?_⟩, fun i x acc S' hx ⟨e, k⟩ => ?_, fun acc S' ⟨e, k⟩ => ?_⟩
  · subst e
    rw [List.length_map]
    exact Nat.le_trans (List.length_filter_le _ _) (by rw [List.length_take]; omega)
  · subst e
    obtain ⟨Γ2, t, hw⟩ := h i x S' hx k
    refine ⟨Γ2, t, fun s H0 C cl fp => ?_⟩
    intro σ ρ M H Q W ok sl kb kx' tk
    refine hw s H0 C cl fp σ ρ M H Q W ok sl (fun b S2 ρ2 M2 H2 ⟨eb, k2, hp⟩ t2 ok2 => kb b S2 ρ2 M2 H2 ?_ t2 ok2) kx' tk
    subst eb
    cases hpx : p x with
    | true =>
      rw [if_pos rfl]
      intro s H0 C cl fp
      refine (hp hpx s H0 C cl fp).imp fun y S3 ⟨e, k3⟩ => ⟨?_, k3⟩
      rw [take_snoc hx, List.filter_append, List.map_append, e]
      simp [hpx]
    | false =>
      rw [if_neg Bool.false_ne_true]
      refine ⟨?_, k2⟩
      rw [take_snoc hx, List.filter_append]
      simp [hpx]
  · subst e
    rw [List.take_length]
    exact fin S' k
def tabOf {κ : Type} [DecidableEq κ] (l : List (κ × D)) : List (κ × D) := l.foldl (fun acc q => putA acc q.1 q.2) []
theorem putA_new {κ : Type} [DecidableEq κ] {l : List (κ × D)} {k : κ} {d : D} (h : k ∉ l.map (fun q => q.1)) : putA l k d = l ++ [(k, d)] := by
  unfold putA
  rw [if_neg]
  intro z
  rw [List.any_eq_true] at z
  obtain ⟨q, hq, e⟩ := z
  exact h (List.mem_map.mpr ⟨q, hq, of_decide_eq_true e⟩)
theorem fold_nodup {κ : Type} [DecidableEq κ] : ∀ (l acc : List (κ × D)), ((acc ++ l).map (fun q => q.1)).Nodup → l.foldl (fun acc q => putA acc q.1 q.2) acc = acc ++ l
  | [], acc, _ => by simp
  | q :: l, acc, h => by
    have hq : q.1 ∉ acc.map (fun q => q.1) := by
      intro z
      rw [List.map_append, List.nodup_append] at h
      exact h.2.2 q.1 z q.1 (by simp) rfl
    rw [List.foldl_cons, putA_new hq, fold_nodup l (acc ++ [(q.1, q.2)]) (by simpa using h)]
    simp
theorem tabOf_nodup {κ : Type} [DecidableEq κ] {l : List (κ × D)} (h : (l.map (fun q => q.1)).Nodup) : tabOf l = l := by
  have := fold_nodup l [] (by simpa using h)
  simpa [tabOf] using this
theorem tabOf_len {κ : Type} [DecidableEq κ] (l : List (κ × D)) : (tabOf l).length ≤ l.length := by
  have : ∀ (l acc : List (κ × D)), (l.foldl (fun acc q => putA acc q.1 q.2) acc).length ≤ acc.length + l.length := by
    intro l
    induction l with
    | nil => intro acc; simp
    | cons q l ih =>
      intro acc
      rw [List.foldl_cons]
      refine Nat.le_trans (ih _) ?_
      have : (putA acc q.1 q.2).length ≤ acc.length + 1 := by
        unfold putA
        split
        · rw [List.length_map]; omega
        · simp
      simp only [List.length_cons]
      omega
  simpa [tabOf] using this l []
theorem tabOf_snoc {κ : Type} [DecidableEq κ] (l : List (κ × D)) (q : κ × D) : tabOf (l ++ [q]) = putA (tabOf l) q.1 q.2 := by
  unfold tabOf
  rw [List.foldl_append]
  rfl
theorem dc_map (kf : D → Key) (vf : D → D) {Φ : List (Key × D) → List Cell → Prop} (hz : ds.length ≤ 1000000) (hG : ∀ S', Keep S1 S' → G S') (h : ∀ (i : Nat) (x : D) (S' : List Cell), ds[i]? = some x → Keep S1 S' → ∃ Γ2, TgC (gd X) vs g x (wipeD Γ vs) Γ2 ∧ WEb X scope kx Γ2 S' fun y S3 => y = keyD (kf x) ∧ Keep S1 S3 ∧ WEb X scope vx Γ2 S3 fun z S4 => z = vf x ∧ Keep S1 S4)
    (fin : ∀ S', Keep S1 S' → Φ (tabOf (ds.map fun x => (kf x, vf x))) S') : DcI keyD X scope vs g [] kx vx Γ ds G S1 Φ := by
  refine ⟨fun i acc S' => acc = tabOf ((ds.take i).map fun x => (kf x, vf x)) ∧ Keep S1 S', hz, ⟨rfl, .refl⟩, fun i acc S' hi ⟨e, k⟩ => ⟨hG S' k, ?_⟩, fun i x acc S' hx ⟨e, k⟩ => ?_, fun acc S' ⟨e, k⟩ => ?_⟩
  · subst e
    refine Nat.le_trans (tabOf_len _) ?_
    rw [List.length_map, List.length_take]; omega
  · subst e
    obtain ⟨Γ2, t, hw⟩ := h i x S' hx k
    refine ⟨Γ2, t, ?_⟩
    simp only [WTb, ↓reduceIte]
    intro s H0 C cl fp
    refine (hw s H0 C cl fp).imp fun y S3 ⟨e, k3, hv⟩ => ?_
    intro s H0 C cl fp
    refine (hv s H0 C cl fp).imp fun z S4 ⟨ez, k4⟩ => ⟨kf x, e, ?_, k4⟩
    rw [take_snoc hx, List.map_append, List.map_cons, List.map_nil, tabOf_snoc, ez]
  · subst e
    rw [List.take_length]
    exact fin S' k
theorem dc_filter {c : Expr} (p : D → Bool) (kf : D → Key) (vf : D → D) {Φ : List (Key × D) → List Cell → Prop} (hz : ds.length ≤ 1000000) (hG : ∀ S', Keep S1 S' → G S') (h : ∀ (i : Nat) (x : D) (S' : List Cell), ds[i]? = some x → Keep S1 S' → ∃ Γ2, TgC (gd X) vs g x (wipeD Γ vs) Γ2 ∧ WTb X scope [c] Γ2 S' fun b S2 => b = p x ∧ Keep S1 S2 ∧ (p x = true → WEb X scope kx Γ2 S2 fun y S3 => y = keyD (kf x) ∧ Keep S1 S3 ∧ WEb X scope vx Γ2 S3 fun z S4 => z = vf x ∧ Keep S1 S4))
    (fin : ∀ S', Keep S1 S' → Φ (tabOf ((ds.filter p).map fun x => (kf x, vf x))) S') : DcI keyD X scope vs g [c] kx vx Γ ds G S1 Φ := by
  refine ⟨fun i acc S' => acc = tabOf (((ds.take i).filter p).map fun x => (kf x, vf x)) ∧ Keep S1 S', hz, ⟨rfl, .refl⟩, fun i acc S' hi ⟨e, k⟩ => ⟨hG S' k, ?_⟩, fun i x acc S' hx ⟨e, k⟩ => ?_, fun acc S' ⟨e, k⟩ => ?_⟩
  · subst e
    refine Nat.le_trans (tabOf_len _) ?_
    rw [List.length_map]
    exact Nat.le_trans (List.length_filter_le _ _) (by rw [List.length_take]; omega)
  · subst e
    obtain ⟨Γ2, t, hw⟩ := h i x S' hx k
    refine ⟨Γ2, t, fun s H0 C cl fp => ?_⟩
    intro σ ρ M H Q W ok sl kb kx' tk
    refine hw s H0 C cl fp σ ρ M H Q W ok sl (fun b S2 ρ2 M2 H2 ⟨eb, k2, hp⟩ t2 ok2 => kb b S2 ρ2 M2 H2 ?_ t2 ok2) kx' tk
    subst eb
    cases hpx : p x with
    | true =>
      rw [if_pos rfl]
      intro s H0 C cl fp
      refine (hp hpx s H0 C cl fp).imp fun y S3 ⟨e, k3, hv⟩ => ?_
      intro s H0 C cl fp
      refine (hv s H0 C cl fp).imp fun z S4 ⟨ez, k4⟩ => ⟨kf x, e, ?_, k4⟩
      rw [take_snoc hx, List.filter_append, List.map_append]
      simp only [List.filter_cons, hpx, if_true, List.filter_nil, List.map_cons, List.map_nil]
      rw [tabOf_snoc, ez]
    | false =>
      rw [if_neg Bool.false_ne_true]
      refine ⟨?_, k2⟩
      rw [take_snoc hx, List.filter_append]
      simp [hpx]
  · subst e
    rw [List.take_length]
    exact fin S' k
theorem dn_map (kf : D → List NK) (vf : D → D) {Φ : List (NK × D) → List Cell → Prop} (hz : ds.length ≤ 1000000) (hG : ∀ S', Keep S1 S' → G S') (h : ∀ (i : Nat) (x : D) (S' : List Cell), ds[i]? = some x → Keep S1 S' → ∃ Γ2, TgC (gd X) vs g x (wipeD Γ vs) Γ2 ∧ WEb X scope kx Γ2 S' fun y S3 => y = nkD (.tup (kf x)) ∧ (NestedKey.tup (kf x)).depth ≤ 8 ∧ Keep S1 S3 ∧ WEb X scope vx Γ2 S3 fun z S4 => z = vf x ∧ Keep S1 S4)
    (fin : ∀ S', Keep S1 S' → Φ (tabOf (ds.map fun x => (NestedKey.tup (kf x), vf x))) S') : DnI X scope vs g [] kx vx Γ ds G S1 Φ := by
  refine ⟨fun i acc S' => acc = tabOf ((ds.take i).map fun x => (NestedKey.tup (kf x), vf x)) ∧ Keep S1 S', hz, ⟨rfl, .refl⟩, fun i acc S' hi ⟨e, k⟩ => ⟨hG S' k, ?_⟩, fun i x acc S' hx ⟨e, k⟩ => ?_, fun acc S' ⟨e, k⟩ => ?_⟩
  · subst e
    refine Nat.le_trans (tabOf_len _) ?_
    rw [List.length_map, List.length_take]; omega
  · subst e
    obtain ⟨Γ2, t, hw⟩ := h i x S' hx k
    refine ⟨Γ2, t, ?_⟩
    simp only [WTb, ↓reduceIte]
    intro s H0 C cl fp
    refine (hw s H0 C cl fp).imp fun y S3 ⟨e, hd, k3, hv⟩ => ?_
    intro s H0 C cl fp
    refine (hv s H0 C cl fp).imp fun z S4 ⟨ez, k4⟩ => ⟨kf x, e, hd, ?_, k4⟩
    rw [take_snoc hx, List.map_append, List.map_cons, List.map_nil, tabOf_snoc, ez]
  · subst e
    rw [List.take_length]
    exact fin S' k
theorem lc_mapE {α : Type} (enc : α → D) (xs : List α) (hds : ds = xs.map enc) (f : α → D) {Φ : List D → List Cell → Prop} (hz : ds.length ≤ 1000000) (hG : ∀ S', Keep S1 S' → G S') (h : ∀ (i : Nat) (x : α) (S' : List Cell), xs[i]? = some x → Keep S1 S' → ∃ Γ2, TgC (gd X) vs g (enc x) (wipeD Γ vs) Γ2 ∧ WEb X scope elt Γ2 S' fun y S3 => y = f x ∧ Keep S1 S3)
    (fin : ∀ S', Keep S1 S' → Φ (xs.map f) S') : LcI X scope vs g [] elt Γ ds G S1 Φ := by
  refine ⟨fun i acc S' => acc = (xs.take i).map f ∧ Keep S1 S', hz, ⟨rfl, .refl⟩, fun i acc S' hi ⟨e, k⟩ => ⟨hG S' k, ?_⟩, fun i y acc S' hy ⟨e, k⟩ => ?_, fun acc S' ⟨e, k⟩ => ?_⟩
  · subst e; rw [List.length_map, List.length_take]; omega
  · subst e
    obtain ⟨x, hx, ex⟩ : ∃ x, xs[i]? = some x ∧ enc x = y := by
      rw [hds, List.getElem?_map] at hy
      exact Option.map_eq_some_iff.mp hy
    subst ex
    obtain ⟨Γ2, t, hw⟩ := h i x S' hx k
    refine ⟨Γ2, t, ?_⟩
    simp only [WTb, ↓reduceIte]
    intro s H0 C cl fp
    refine (hw s H0 C cl fp).imp fun y S3 ⟨e, k3⟩ => ⟨?_, k3⟩
    rw [take_snoc hx, List.map_append, e]
    rfl
  · subst e
    rw [show ds.length = xs.length by rw [hds, List.length_map], List.take_length]
    exact fin S' k
theorem lc_filterE {α : Type} (enc : α → D) (xs : List α) (hds : ds = xs.map enc) {c : Expr} (p : α → Bool) (f : α → D) {Φ : List D → List Cell → Prop} (hz : ds.length ≤ 1000000) (hG : ∀ S', Keep S1 S' → G S') (h : ∀ (i : Nat) (x : α) (S' : List Cell), xs[i]? = some x → Keep S1 S' → ∃ Γ2, TgC (gd X) vs g (enc x) (wipeD Γ vs) Γ2 ∧ WTb X scope [c] Γ2 S' fun b S2 => b = p x ∧ Keep S1 S2 ∧ (p x = true → WEb X scope elt Γ2 S2 fun y S3 => y = f x ∧ Keep S1 S3))
    (fin : ∀ S', Keep S1 S' → Φ ((xs.filter p).map f) S') : LcI X scope vs g [c] elt Γ ds G S1 Φ := by
  refine ⟨fun i acc S' => acc = ((xs.take i).filter p).map f ∧ Keep S1 S', hz, ⟨rfl, .refl⟩, fun i acc S' hi ⟨e, k⟩ => ⟨hG S' k, ?_⟩, fun i y acc S' hy ⟨e, k⟩ => ?_, fun acc S' ⟨e, k⟩ => ?_⟩
  · subst e
    rw [List.length_map]
    exact Nat.le_trans (List.length_filter_le _ _) (by rw [List.length_take]; omega)
  · subst e
    obtain ⟨x, hx, ex⟩ : ∃ x, xs[i]? = some x ∧ enc x = y := by
      rw [hds, List.getElem?_map] at hy
      exact Option.map_eq_some_iff.mp hy
    subst ex
    obtain ⟨Γ2, t, hw⟩ := h i x S' hx k
    refine ⟨Γ2, t, fun s H0 C cl fp => ?_⟩
    intro σ ρ M H Q W ok sl kb kx' tk
    refine hw s H0 C cl fp σ ρ M H Q W ok sl (fun b S2 ρ2 M2 H2 ⟨eb, k2, hp⟩ t2 ok2 => kb b S2 ρ2 M2 H2 ?_ t2 ok2) kx' tk
    subst eb
    cases hpx : p x with
    | true =>
      rw [if_pos rfl]
      intro s H0 C cl fp
      refine (hp hpx s H0 C cl fp).imp fun y S3 ⟨e, k3⟩ => ⟨?_, k3⟩
      rw [take_snoc hx, List.filter_append, List.map_append, e]
      simp [hpx]
    | false =>
      rw [if_neg Bool.false_ne_true]
      refine ⟨?_, k2⟩
      rw [take_snoc hx, List.filter_append]
      simp [hpx]
  · subst e
    rw [show ds.length = xs.length by rw [hds, List.length_map], List.take_length]
    exact fin S' k
theorem dc_mapE {α : Type} (enc : α → D) (xs : List α) (hds : ds = xs.map enc) (kf : α → Key) (vf : α → D) {Φ : List (Key × D) → List Cell → Prop} (hz : ds.length ≤ 1000000) (hG : ∀ S', Keep S1 S' → G S') (h : ∀ (i : Nat) (x : α) (S' : List Cell), xs[i]? = some x → Keep S1 S' → ∃ Γ2, TgC (gd X) vs g (enc x) (wipeD Γ vs) Γ2 ∧ WEb X scope kx Γ2 S' fun y S3 => y = keyD (kf x) ∧ Keep S1 S3 ∧ WEb X scope vx Γ2 S3 fun z S4 => z = vf x ∧ Keep S1 S4)
    (fin : ∀ S', Keep S1 S' → Φ (tabOf (xs.map fun x => (kf x, vf x))) S') : DcI keyD X scope vs g [] kx vx Γ ds G S1 Φ := by
  refine ⟨fun i acc S' => acc = tabOf ((xs.take i).map fun x => (kf x, vf x)) ∧ Keep S1 S', hz, ⟨rfl, .refl⟩, fun i acc S' hi ⟨e, k⟩ => ⟨hG S' k, ?_⟩, fun i y acc S' hy ⟨e, k⟩ => ?_, fun acc S' ⟨e, k⟩ => ?_⟩
  · subst e
    refine Nat.le_trans (tabOf_len _) ?_
    rw [List.length_map, List.length_take]; omega
  · subst e
    obtain ⟨x, hx, ex⟩ : ∃ x, xs[i]? = some x ∧ enc x = y := by
      rw [hds, List.getElem?_map] at hy
      exact Option.map_eq_some_iff.mp hy
    subst ex
    obtain ⟨Γ2, t, hw⟩ := h i x S' hx k
    refine ⟨Γ2, t, ?_⟩
    simp only [WTb, ↓reduceIte]
    intro s H0 C cl fp
    refine (hw s H0 C cl fp).imp fun y S3 ⟨e, k3, hv⟩ => ?_
    intro s H0 C cl fp
    refine (hv s H0 C cl fp).imp fun z S4 ⟨ez, k4⟩ => ⟨kf x, e, ?_, k4⟩
    rw [take_snoc hx, List.map_append, List.map_cons, List.map_nil, tabOf_snoc, ez]
  · subst e
    rw [show ds.length = xs.length by rw [hds, List.length_map], List.take_length]
    exact fin S' k
theorem dc_filterE {α : Type} (enc : α → D) (xs : List α) (hds : ds = xs.map enc) {c : Expr} (p : α → Bool) (kf : α → Key) (vf : α → D) {Φ : List (Key × D) → List Cell → Prop} (hz : ds.length ≤ 1000000) (hG : ∀ S', Keep S1 S' → G S') (h : ∀ (i : Nat) (x : α) (S' : List Cell), xs[i]? = some x → Keep S1 S' → ∃ Γ2, TgC (gd X) vs g (enc x) (wipeD Γ vs) Γ2 ∧ WTb X scope [c] Γ2 S' fun b S2 => b = p x ∧ Keep S1 S2 ∧ (p x = true → WEb X scope kx Γ2 S2 fun y S3 => y = keyD (kf x) ∧ Keep S1 S3 ∧ WEb X scope vx Γ2 S3 fun z S4 => z = vf x ∧ Keep S1 S4))
    (fin : ∀ S', Keep S1 S' → Φ (tabOf ((xs.filter p).map fun x => (kf x, vf x))) S') : DcI keyD X scope vs g [c] kx vx Γ ds G S1 Φ := by
  refine ⟨fun i acc S' => acc = tabOf (((xs.take i).filter p).map fun x => (kf x, vf x)) ∧ Keep S1 S', hz, ⟨rfl, .refl⟩, fun i acc S' hi ⟨e, k⟩ => ⟨hG S' k, ?_⟩, fun i y acc S' hy ⟨e, k⟩ => ?_, fun acc S' ⟨e, k⟩ => ?_⟩
  · subst e
    refine Nat.le_trans (tabOf_len _) ?_
    rw [List.length_map]
    exact Nat.le_trans (List.length_filter_le _ _) (by rw [List.length_take]; omega)
  · subst e
    obtain ⟨x, hx, ex⟩ : ∃ x, xs[i]? = some x ∧ enc x = y := by
      rw [hds, List.getElem?_map] at hy
      exact Option.map_eq_some_iff.mp hy
    subst ex
    obtain ⟨Γ2, t, hw⟩ := h i x S' hx k
    refine ⟨Γ2, t, fun s H0 C cl fp => ?_⟩
    intro σ ρ M H Q W ok sl kb kx' tk
    refine hw s H0 C cl fp σ ρ M H Q W ok sl (fun b S2 ρ2 M2 H2 ⟨eb, k2, hp⟩ t2 ok2 => kb b S2 ρ2 M2 H2 ?_ t2 ok2) kx' tk
    subst eb
    cases hpx : p x with
    | true =>
      rw [if_pos rfl]
      intro s H0 C cl fp
      refine (hp hpx s H0 C cl fp).imp fun y S3 ⟨e, k3, hv⟩ => ?_
      intro s H0 C cl fp
      refine (hv s H0 C cl fp).imp fun z S4 ⟨ez, k4⟩ => ⟨kf x, e, ?_, k4⟩
      rw [take_snoc hx, List.filter_append, List.map_append]
      simp only [List.filter_cons, hpx, if_true, List.filter_nil, List.map_cons, List.map_nil]
      rw [tabOf_snoc, ez]
    | false =>
      rw [if_neg Bool.false_ne_true]
      refine ⟨?_, k2⟩
      rw [take_snoc hx, List.filter_append]
      simp [hpx]
  · subst e
    rw [show ds.length = xs.length by rw [hds, List.length_map], List.take_length]
    exact fin S' k
theorem dn_mapE {α : Type} (enc : α → D) (xs : List α) (hds : ds = xs.map enc) (kf : α → List NK) (vf : α → D) {Φ : List (NK × D) → List Cell → Prop} (hz : ds.length ≤ 1000000) (hG : ∀ S', Keep S1 S' → G S') (h : ∀ (i : Nat) (x : α) (S' : List Cell), xs[i]? = some x → Keep S1 S' → ∃ Γ2, TgC (gd X) vs g (enc x) (wipeD Γ vs) Γ2 ∧ WEb X scope kx Γ2 S' fun y S3 => y = nkD (.tup (kf x)) ∧ (NestedKey.tup (kf x)).depth ≤ 8 ∧ Keep S1 S3 ∧ WEb X scope vx Γ2 S3 fun z S4 => z = vf x ∧ Keep S1 S4)
    (fin : ∀ S', Keep S1 S' → Φ (tabOf (xs.map fun x => (NestedKey.tup (kf x), vf x))) S') : DnI X scope vs g [] kx vx Γ ds G S1 Φ := by
  refine ⟨fun i acc S' => acc = tabOf ((xs.take i).map fun x => (NestedKey.tup (kf x), vf x)) ∧ Keep S1 S', hz, ⟨rfl, .refl⟩, fun i acc S' hi ⟨e, k⟩ => ⟨hG S' k, ?_⟩, fun i y acc S' hy ⟨e, k⟩ => ?_, fun acc S' ⟨e, k⟩ => ?_⟩
  · subst e
    refine Nat.le_trans (tabOf_len _) ?_
    rw [List.length_map, List.length_take]; omega
  · subst e
    obtain ⟨x, hx, ex⟩ : ∃ x, xs[i]? = some x ∧ enc x = y := by
      rw [hds, List.getElem?_map] at hy
      exact Option.map_eq_some_iff.mp hy
    subst ex
    obtain ⟨Γ2, t, hw⟩ := h i x S' hx k
    refine ⟨Γ2, t, ?_⟩
    simp only [WTb, ↓reduceIte]
    intro s H0 C cl fp
    refine (hw s H0 C cl fp).imp fun y S3 ⟨e, hd, k3, hv⟩ => ?_
    intro s H0 C cl fp
    refine (hv s H0 C cl fp).imp fun z S4 ⟨ez, k4⟩ => ⟨kf x, e, hd, ?_, k4⟩
    rw [take_snoc hx, List.map_append, List.map_cons, List.map_nil, tabOf_snoc, ez]
  · subst e
    rw [show ds.length = xs.length by rw [hds, List.length_map], List.take_length]
    exact fin S' k
end
section
variable {X : Cx} {Γ : List (Option D)} {S : List Cell} {P : Post} {Φ : D → List Cell → Prop} {Ξ : XP} {e c : Expr} {a b : List Stmt} {pos : Pos}
theorem WT.imp {ΦB ΦB' : Bool → List Cell → Prop} (h : WT X e Γ S ΦB Ξ) (k : ∀ d S', ΦB d S' → ΦB' d S') : WT X e Γ S ΦB' Ξ := fun σ ρ M H Q W ok sl kv kx tk => h σ ρ M H Q W ok sl (fun d S' ρ' M' H' p => kv d S' ρ' M' H' (k d S' p)) kx tk
theorem ws_ifT (h : WT X e Γ S (fun k S1 => k = true ∧ WB X a Γ S1 P) P.ex) : WS X (.If e a b pos) Γ S P := ws_if (h.imp fun k S1 ⟨e, q⟩ => by subst e; exact q)
theorem ws_ifF (h : WT X e Γ S (fun k S1 => k = false ∧ WB X b Γ S1 P) P.ex) : WS X (.If e a b pos) Γ S P := ws_if (h.imp fun k S1 ⟨e, q⟩ => by subst e; exact q)
theorem we_ifT {x y : Expr} (h : WT X c Γ S (fun k S1 => k = true ∧ WE X x Γ S1 Φ Ξ) Ξ) : WE X (.IfExp c x y pos) Γ S Φ Ξ := we_if (h.imp fun k S1 ⟨e, q⟩ => by subst e; exact q)
theorem we_ifF {x y : Expr} (h : WT X c Γ S (fun k S1 => k = false ∧ WE X y Γ S1 Φ Ξ) Ξ) : WE X (.IfExp c x y pos) Γ S Φ Ξ := we_if (h.imp fun k S1 ⟨e, q⟩ => by subst e; exact q)
theorem we_chainT {op op' : CmpOp} {r r' : R2} {a b c : Expr} (ho : OpR X (compareOp op) r) (ho' : OpR X (compareOp op') r') (h : WE X a Γ S (fun x S1 => WE X b Γ S1 (fun y S2 => R2s (gd X) r x y S2 (fun z S3 => z = .bl true ∧ WE X c Γ S3 (fun w S4 => R2s (gd X) r' y w S4 Φ) Ξ)) Ξ) Ξ)
    (hm : lastMarks [op, op'] [b, c] = false := by with_unfolding_all rfl) : WE X (.Compare a [op, op'] [b, c] pos) Γ S Φ Ξ :=
  we_chain ho ho' (h.imp fun x S1 h1 => h1.imp fun y S2 h2 ρ M H vx vy Q ok rx ry kv => h2 ρ M H vx vy Q ok rx ry fun d S' v ρ' M' H' ⟨e, q⟩ => kv d S' v ρ' M' H' ⟨true, e, by rw [if_pos rfl]; exact q⟩) hm
end
end Ab
set_option Elab.async false
set_option linter.all false
set_option maxRecDepth 100000
set_option maxHeartbeats 4000000
/-! y = a comprehension, on one line. -/
namespace Ab
open PySem PySem.Spec PyProof.Rows L2
section
variable {X : Cx} {Γ : List (Option D)} {S : List Cell} {P : Post} {elt kx vx tg iter tg1 iter1 : Expr} {ifs ifs1 : List Expr} {scope : Scope} {own : List (Str × Nat)} {pos spos py : Pos} {g g1 : TG} {i : Nat} {y : Str}
theorem pre_app {ρ : List Addr} {p : Addr} : ∀ (l : Nat) (a : Addr), ρ[l]? = some a → (ρ ++ [p])[l]? = some a := fun l a h => by
  rw [List.getElem?_append_left (List.getElem?_eq_some_iff.mp h).1]
  exact h
theorem ws_lcC (hc : X.calm = true) (hN : X.N.Nodup) (ok : BlkOk X.N X.env.scope scope own) (hg : ∀ (s : Shared) (H : Hp) (C : Addr) (cl : List (Str × Addr)) (fp : List Addr), PG (X.blk s H scope (compEnvC scope cl C X.env) fp) tg g)
    (h : WI X tg iter Γ S (fun ds G S1 => LcI X scope (own.map fun q => q.2) g ifs elt Γ ds G S1 fun acc S' => P.nx (Γ.set i (some (.ptr S'.length))) (S' ++ [.lst acc])) P.ex) (hy : X.N[i]? = some y := by rfl) (hyl : X.env.scope.names.lookup y = some .local := by rfl)
    (hsw : swapsWith (.ListComp elt [⟨tg, iter, ifs, 0⟩] scope pos) (some (.Name y py)) spos.line X.env = pure true := by exact sw_true rfl rfl rfl (by decide +kernel)) (hif : ifs.length ≤ 1 := by decide) (hs : ∀ x, foldedSetIterable iter X.env x = pure x := by intro _; rfl) : WS X (.Assign [.Name y py] (.ListComp elt [⟨tg, iter, ifs, 0⟩] scope pos) spos) Γ S P :=
  fun σ ρ M H E okS sl sat => by
    obtain ⟨W, kx, tk⟩ := sat.ex
    obtain ⟨wi, hwi, hr⟩ := h
    refine PS.s (ps_setLc hc hN hy hyl hsw hwi ok hg (pts_of hif) pe_of hs) (hr σ ρ M H _ W okS sl (fun J ds G S1 ρ1 M1 H1 hL t1 ok1 src => ?_) kx tk)
    intro p hp
    refine lc_run (Qd := fun x H1 => gName i x σ H1 E.nx) ok1 (t1.slots sl) src hL p hp fun acc vacc S' ρ' M' H' hΦ t' ok' ep ra => ?_
    obtain ⟨t2, ok2⟩ := t'.cell hp ok' (c := .lst acc) (.lst ep (Rps.mono (fun _ _ h => h) pre_app acc vacc ra))
    exact sat.nx _ _ _ _ _ H' hΦ (t1.trans t2) ok2 (((t1.trans t2).slots sl).set (.ptr (by rw [← ok'.len]; simp)) i)
theorem ws_dcC (hc : X.calm = true) (hN : X.N.Nodup) (ok : BlkOk X.N X.env.scope scope own) (hg : ∀ (s : Shared) (H : Hp) (C : Addr) (cl : List (Str × Addr)) (fp : List Addr), PG (X.blk s H scope (compEnvC scope cl C X.env) fp) tg g)
    (h : WI X tg iter Γ S (fun ds G S1 => DcI keyD X scope (own.map fun q => q.2) g ifs kx vx Γ ds G S1 fun acc S' => P.nx (Γ.set i (some (.ptr S'.length))) (S' ++ [cK acc])) P.ex) (hy : X.N[i]? = some y := by rfl) (hyl : X.env.scope.names.lookup y = some .local := by rfl)
    (hsw : swapsWith (.DictComp kx vx [⟨tg, iter, ifs, 0⟩] scope pos) (some (.Name y py)) spos.line X.env = pure true := by exact sw_trueD rfl rfl rfl (by decide +kernel)) (hif : ifs.length ≤ 1 := by decide) (hs : ∀ x, foldedSetIterable iter X.env x = pure x := by intro _; rfl) : WS X (.Assign [.Name y py] (.DictComp kx vx [⟨tg, iter, ifs, 0⟩] scope pos) spos) Γ S P :=
  fun σ ρ M H E okS sl sat => by
    obtain ⟨W, kx', tk⟩ := sat.ex
    obtain ⟨wi, hwi, hr⟩ := h
    refine PS.s (ps_setDc hc hN hy hyl hsw hwi ok hg (pts_of hif) pe_of pe_of hs) (hr σ ρ M H _ W okS sl (fun J ds G S1 ρ1 M1 H1 hL t1 ok1 src => ?_) kx' tk)
    intro p hp
    refine dc_run (Qd := fun x H1 => gName i x σ H1 E.nx) ok1 (t1.slots sl) src hL p hp fun acc vacc S' ρ' M' H' hΦ t' ok' ep ra => ?_
    obtain ⟨t2, ok2⟩ := t'.cell hp ok' (c := cK acc) ((ra.mono (fun _ _ h => h) pre_app).cell ep)
    exact sat.nx _ _ _ _ _ H' hΦ (t1.trans t2) ok2 (((t1.trans t2).slots sl).set (.ptr (by rw [← ok'.len]; simp)) i)
theorem ws_dcF (hc : X.calm = true) (hN : X.N.Nodup) (ok : BlkOk X.N X.env.scope scope own) (hg : ∀ (s : Shared) (H : Hp) (C : Addr) (cl : List (Str × Addr)) (fp : List Addr), PG (X.blk s H scope (compEnvC scope cl C X.env) fp) tg g)
    (h : WI X tg iter Γ S (fun ds G S1 => DcI keyD X scope (own.map fun q => q.2) g ifs kx vx Γ ds G S1 fun acc S' => P.nx (Γ.set i (some (dK acc))) S') P.ex) (hy : X.N[i]? = some y := by rfl) (hyl : X.env.scope.names.lookup y = some .local := by rfl)
    (hsw : swapsWith (.DictComp kx vx [⟨tg, iter, ifs, 0⟩] scope pos) (some (.Name y py)) spos.line X.env = pure true := by exact sw_trueD rfl rfl rfl (by decide +kernel)) (hif : ifs.length ≤ 1 := by decide) (hs : ∀ x, foldedSetIterable iter X.env x = pure x := by intro _; rfl) : WS X (.Assign [.Name y py] (.DictComp kx vx [⟨tg, iter, ifs, 0⟩] scope pos) spos) Γ S P :=
  fun σ ρ M H E okS sl sat => by
    obtain ⟨W, kx', tk⟩ := sat.ex
    obtain ⟨wi, hwi, hr⟩ := h
    refine PS.s (ps_setDc hc hN hy hyl hsw hwi ok hg (pts_of hif) pe_of pe_of hs) (hr σ ρ M H _ W okS sl (fun J ds G S1 ρ1 M1 H1 hL t1 ok1 src => ?_) kx' tk)
    intro p hp
    refine dc_run (Qd := fun x H1 => gName i x σ H1 E.nx) ok1 (t1.slots sl) src hL p hp fun acc vacc S' ρ' M' H' hΦ t' ok' ep ra => ?_
    obtain ⟨t2, ok2, sm⟩ := t'.keep hp ok' ep
    exact sat.nx _ S' _ ρ' _ H' hΦ (t1.trans t2) ok2 (((t1.trans t2).slots sl).set ((ra.mono sm (fun _ _ h => h)).rp upd_same) i)
end
end Ab
set_option Elab.async false
set_option linter.all false
set_option maxRecDepth 100000
set_option maxHeartbeats 4000000
/-! x += e. -/
namespace Ab
open PySem PySem.Spec PyProof.Rows L2
section
variable {X : Cx} {Γ : List (Option D)} {S : List Cell} {P : Post} {e : Expr} {pos pos' : Pos}
theorem ws_aug (i : Nat) {x : Str} {op : Operator} {ti : TIp} {d : D} (hN : X.N.Nodup) (ho : PIp X op ti) (hΓ : Γ[i]? = some (some d)) (h : WE X e Γ S (fun y S1 => R2s (gd X) ti d y S1 (fun z S2 => P.nx (Γ.set i (some z)) S2)) P.ex) (hi : X.N[i]? = some x := by rfl) (hx : Loc X.env.scope x := by first | exact .inl rfl | exact .inr rfl)
    (hf : X.fn x = true ∨ X.env.scope.names.lookup x = some .local := by first | exact .inl rfl | exact .inr rfl | assumption) : WS X (.AugAssign (.Name x pos') op e pos) Γ S P := fun σ ρ M H E ok sl sat => by
  obtain ⟨W, kx, tk⟩ := sat.ex
  obtain ⟨v, e1, r⟩ := sl.at_ i d hΓ
  exact PS.s (ps_aug hN hi hx (pe_s e) ho hf) ⟨v, e1, h σ ρ M H _ W ok sl (fun y S1 vy ρ1 M1 H1 h1 t1 ok1 r1 => h1 ρ1 M1 H1 v vy _ ok1 (t1.rp r) r1 fun z S2 vz ρ2 M2 H2 p t2 ok2 r2 => sat.nx _ S2 _ ρ2 M2 H2 p (t1.trans t2) ok2 (((t1.trans t2).slots sl).set r2 i)) kx tk⟩
theorem ws_whileD {body : List Stmt} (hp : PassesOwn (model X.prog X.w) X.A X.env X.xe) (I : Nat → List (Option D) → List Cell → Prop) (n : Nat) (h0 : I n Γ S)
    (hi : ∀ m Γ' S', I m Γ' S' → WT X e Γ' S' (fun k S1 => (k = true ∧ WB X body Γ' S1 { P with nx := fun Γ2 S2 => ∃ m', m' < m ∧ I m' Γ2 S2, ct := fun Γ2 S2 => ∃ m', m' < m ∧ I m' Γ2 S2, bk := P.nx }) ∨ (k = false ∧ P.nx Γ' S1)) P.ex) : WS X (.While e body [] pos) Γ S P :=
  ws_while hp I n h0 fun m Γ' S' h => (hi m Γ' S' h).imp fun k S1 q => by
    rcases q with ⟨e, q⟩ | ⟨e, q⟩
    · subst e; rw [if_pos rfl]; exact q
    · subst e; rw [if_neg Bool.false_ne_true]; exact q
end
end Ab
set_option Elab.async false
set_option linter.all false
set_option maxRecDepth 100000
set_option maxHeartbeats 4000000
/-! sorted(set([])). -/
namespace Ab
open PySem PySem.Spec PyProof.Rows L2
section
variable {X : Cx} {Γ : List (Option D)} {S : List Cell} {Φ : D → List Cell → Prop} {Ξ : XP} {e : Expr} {p p2 pos pos2 : Pos}
theorem Ok.extra {g : Gd} {ρ : List Addr} {M H : Hp} {a : Addr} {o : HO} (k : Ok g S ρ M H) (ha : H a = none) : Ok g S ρ M (upd H a o) ∧ To S ρ M H S ρ M (upd H a o) :=
  ⟨k.priv (Priv.new (H' := H) k ha), ⟨fun _ _ h => h, fun _ _ h => h, fun b u e _ => by rw [upd_ne (ne_of_none e ha)]; exact e, fun b h => .inl h, fun b h => .inr h⟩⟩
theorem we_sortSet0 (hc : X.calm = true) (hu : X.A.units + 64 < cLine) (hg : Gl X "sorted") (hm : X.mg "sorted" = none) (hg2 : Gl X "set") (hm2 : X.mg "set" = none) (h : WE X e Γ S (fun d S1 => LstD S1 d [] ∧ Φ (.lst []) S1) Ξ)
    (he : starEach [e] X.env = [(false, eval e X.env)] := by rfl) (he2 : starEach [.Call (.Name "set" p2) [e] [] pos2] X.env = [(false, eval (.Call (.Name "set" p2) [e] [] pos2) X.env)] := by rfl) : WE X (.Call (.Name "sorted" p) [.Call (.Name "set" p2) [e] [] pos2] [] pos) Γ S Φ Ξ :=
  fun σ ρ M H Q W ok sl kv kx tk => PE.s (pe_callB (cr_sortedT hc) hg hm boot_sorted (pa_cons (pe_callTy (cr_setOfT hc hu) hg2 hm2 boot_set (pa_s [e]) (he := he) (hpl := rfl)) pa_nil he2) (he := he2) (hpl := rfl)) (by
    have ha : WA X [e] Γ S (fun ds S1 => ∃ d, ds = [d] ∧ LstD S1 d [] ∧ Φ (.lst []) S1) Ξ := wa_cons (h.imp fun d S1 q => wa_nil ⟨d, rfl, q⟩) he
    refine ha σ ρ M H _ W ok sl (fun ds S1 vs ρ1 M1 H1 ⟨d, ed, hl, q⟩ t1 ok1 r1 => ?_) kx tk
    subst ed
    obtain ⟨v, rfl, r⟩ := rps1 r1
    obtain ⟨a, us, e1, q1, ru⟩ := hl.at ok1 r
    cases ru
    refine ⟨a, [], by rw [e1], q1, (fun _ z => by cases z), by decide, fun b L hb hL _ => ?_⟩
    have : L = [] := by
      cases L with
      | nil => rfl
      | cons z L => exact absurd (hL z List.mem_cons_self) (by simp)
    subst this
    refine ⟨b, [], 1, 1, rfl, upd_same, (fun _ z => by cases z), Nat.le_refl _, (fun _ z => by cases z), fun L' l hp _ _ _ hn => ?_⟩
    have : L' = [] := List.Perm.eq_nil hp
    subst this
    obtain ⟨ok2, t2⟩ := ok1.extra (o := SetTO X.prog X.w b []) hb
    obtain ⟨ok3, t3⟩ := ok2.keep (o := .lst []) hn
    exact kv _ S1 _ ρ1 _ _ q ((t1.trans t2).trans t3) ok3 (.lst (SqL.of upd_same) .nil))
theorem ww_andD {a b : Expr} {rest : List Expr} {ΦB : Bool → List Cell → Prop} (h : WT X a Γ S (fun c S1 => (c = true ∧ WW X (.BoolOp .And (b :: rest) pos) Γ S1 ΦB Ξ) ∨ (c = false ∧ ΦB false S1)) Ξ) : WW X (.BoolOp .And (a :: b :: rest) pos) Γ S ΦB Ξ :=
  ww_and (h.imp fun c S1 q => by
    rcases q with ⟨e, q⟩ | ⟨e, q⟩
    · subst e; rw [if_pos rfl]; exact q
    · subst e; rw [if_neg Bool.false_ne_true]; exact q)
theorem we_andD {a b : Expr} {rest : List Expr} (h : WE X a Γ S (fun d S1 => (d = .bl true ∧ WE X (.BoolOp .And (b :: rest) pos) Γ S1 Φ Ξ) ∨ (d = .bl false ∧ Φ (.bl false) S1)) Ξ) : WE X (.BoolOp .And (a :: b :: rest) pos) Γ S Φ Ξ :=
  we_and (h.imp fun d S1 q => by
    rcases q with ⟨e, q⟩ | ⟨e, q⟩
    · exact ⟨true, e, by rw [if_pos rfl]; exact q⟩
    · exact ⟨false, e, by rw [if_neg Bool.false_ne_true]; exact q⟩)
end
end Ab
set_option Elab.async false
set_option linter.all false
set_option maxRecDepth 100000
set_option maxHeartbeats 4000000
/-! enumerate of a tuple. -/
namespace Ab
open PySem PySem.Spec PyProof.Rows L2
theorem meets_enumB {v : Value} {ob : Obj} {Hd : Heap → Prop} (B : Begins v ob Hd) :
    Meets (Builtin.«enumerate.__new__» ⟨[.type "enumerate", v], []⟩) (fun _ R s => Hd s.heap ∧
      R (.ok (.ret (.ref (s.heap.push ob).objs.size))) { s with heap := (s.heap.push ob).push { cls := .type "enumerate", data := .fields #[.none, .bool false, .ref s.heap.objs.size, rawInt 0, .none, .none] } }) :=
  .of_wp fun prog w A R s h => by
    obtain ⟨hp, g, d, tk, os⟩ := s
    obtain ⟨h1, h⟩ := h
    have subs := sub_enumerate
    have begin_ : ∀ {A' : Around} {E Q : Value → Shared → Prop}, Q (.ref hp.objs.size) ⟨hp.push ob, g, d, tk, os⟩ → wpAny (model prog w) A' (pyIter v) Q E ⟨hp, g, d, tk, os⟩ := fun q => B.iter prog w _ _ ⟨hp, g, d, tk, os⟩ _ h1 q
    wp_walk using begin_
    refine wpAny_stack_any fun st =>
      wpAny_pure ?_
    split
    · rename_i c _ _ _ _ _
      cases (c == Value.type "enumerate")
      · wp_walk using begin_
        exact ⟨_, rfl, h⟩
      · wp_walk using begin_
        exact ⟨_, rfl, h⟩
    · wp_walk using begin_
      exact ⟨_, rfl, h⟩
section
variable {prog : Program} {w : World} {A : Around} {E : Value → Shared → Prop} {s : Shared}
theorem call_enumT {l : Addr} {items : Array Value} {Q : Value → Shared → Prop} (ht : s.heap.IsTuple l items)
    (h : ∀ h', IsEnum h' (s.heap.objs.size + 1) s.heap.objs.size 0 .none → h'.IsTupleIter s.heap.objs.size l 0 → h'.objs.size = s.heap.objs.size + 2 → (∀ b o, s.heap.get? b = some o → h'.get? b = some o) → Q (.ref (s.heap.objs.size + 1)) { s with heap := h' }) :
    wpAny (model prog w) A (call (.type "enumerate") [.ref l]) Q E s := by
  have B := begins_tuple l items
  refine callType_new F.called_enumerate (by decide) (F.typeCall_enumerate_1 _) (F.newCall_enumerate_1 _) (fun obj => F.args_object_init_2 obj _) F.entry_enumerate_new (meets_enumB B) ⟨ht, ?_⟩
  generalize hob : ({ cls := .type "tuple_iterator", data := .fields #[.ref l, .int 0 0] } : Obj) = ob at B ⊢
  have z1 : (s.heap.push ob).objs.size = s.heap.objs.size + 1 := Heap.size_push ..
  show _ ∧ _
  rw [z1]
  have he : IsEnum ((s.heap.push ob).push { cls := .type "enumerate", data := .fields #[.none, .bool false, .ref s.heap.objs.size, rawInt 0, .none, .none] }) (s.heap.objs.size + 1) s.heap.objs.size 0 .none := by
    have q := Heap.get?_push_size (s.heap.push ob) (o := { cls := .type "enumerate", data := .fields #[.none, .bool false, .ref s.heap.objs.size, rawInt 0, .none, .none] }) rfl
    rw [z1] at q
    exact q
  refine ⟨⟨_, he, rfl⟩, h _ he ?_ (by rw [Heap.size_push, z1]) fun b o x => Heap.get?_push_of_some _ (Heap.get?_push_of_some _ x)⟩
  subst hob
  exact ⟨_, Heap.get?_push_of_some _ (Heap.get?_push_size _ rfl), rfl, rfl⟩
end
def IteT (K : PySem.W.Frag) (a : Addr) : It :=
  ⟨fun i H => ∃ (xs : List V) (x : V), SqT K H a xs ∧ xs[i]? = some x, fun i H v H' => ∃ T x, v = .ref T ∧ H T = none ∧ H' = upd H T (.tup [.int (i : Nat), x]) ∧ ∀ xs, SqT K H a xs → xs[i]? = some x, fun i H => ∃ xs : List V, SqT K H a xs ∧ xs.length = i⟩
theorem turn_enumT {P : Program} {w : World} {K : PySem.W.Frag} {elts : List Expr} {kk : Nat} {tpos : Pos} (a e it : Addr) :
    Turn P w K (.Tuple elts kk tpos) (IteT K a) [e, it] e (fun i h => (∃ old, IsEnum h e it ((i : Nat) : Int) old) ∧ h.IsTupleIter it a i ∧ e ≠ it ∧ a ≠ it ∧ a ≠ e) where
  mem := by simp
  obj := fun i h st b hb => by
    obtain ⟨⟨old, he⟩, ⟨o, ho, hc, hd⟩, _⟩ := st
    rcases List.mem_cons.mp hb with z | z
    · rw [z]
      exact ⟨_, he, fun v q => nomatch q⟩
    · rw [List.mem_singleton.mp z]
      exact ⟨o, ho, fun v q => by rw [hd] at q; cases q⟩
  keep := fun i h h' st k => by
    obtain ⟨⟨old, he⟩, hi, hne⟩ := st
    exact ⟨⟨old, k e (by simp) _ he⟩, hi.at fun o q => k it (by simp) o q, hne⟩
  item := by
    intro X hP hw hK hc i pins s σ H E I hf st hg
    subst hP hw hK
    obtain ⟨⟨old, he⟩, hit, hne, hai, hae⟩ := st
    obtain ⟨xs, x, hq, hx⟩ := hg
    obtain ⟨its, rv, p, hz⟩ := I.tuple hq
    obtain ⟨u, hu, ru⟩ := rv.get hx
    have le : e < s.heap.objs.size := Heap.lt_size he
    have li : it < s.heap.objs.size := by
      obtain ⟨_, q, _⟩ := hit
      exact Heap.lt_size q
    have hlt : i < its.toArray.size := by
      rw [List.size_toArray]
      exact (List.getElem?_eq_some_iff.mp hu).1
    refine wpAny_pyNext_enum_itemD (Draws.tuple (A := X.A.in1) (I.ok.hd hc) it a hai its.toArray) he ⟨hit, p⟩ hlt hne (by simp [hne, Ne.symm hae]) fun y h' tk hy ho st' hT hsz hk => ?_
    have ey : y = u := by
      rw [show its.toArray[i]? = some u by simpa using hu] at hy
      exact (Option.some.inj hy).symm
    subst ey
    refine ⟨_, rfl, wpAny_letOwnedTupleGo_enum (s := { s with heap := h', toks := tk + 1 }) ho fun h2 he' sb => ?_⟩
    have hT2 : h2.get? s.heap.objs.size = some { cls := .type "tuple", data := .seq #[.int i tk, y] } := (sb.2 _ (Nat.ne_of_gt le)).trans hT
    have new : ObjOk X.prog X.w (upd H s.heap.objs.size (.tup [.int (i : Nat), x])) h2 s.heap.objs.size (.tup [.int (i : Nat), x]) :=
      ⟨by show 2 ≤ sizeLine; decide, [.int i tk, y], .cons ⟨_, rfl⟩ (.cons ru .nil), _, hT2, rfl, _, rfl⟩
    have I1 : Inv X pins σ (upd H s.heap.objs.size (.tup [.int (i : Nat), x])) { s with heap := h2, toks := tk + 1 } :=
      I.turnedNew (ch := [e, it]) (fun b ob hb q => (sb.2 b (fun z => hb (by simp [z]))).trans (hk b ob (fun z => hb (by simp [z])) (fun z => hb (by simp [z])) q)) hf (Nat.le_refl _) new
    refine ⟨.ref s.heap.objs.size, _, I1, rfl, ⟨_, x, rfl, I.hok.fresh (Nat.le_refl _), rfl, fun ys hy2 => by rw [I.tuple_inj hy2 hq]; exact hx⟩, ⟨⟨y, ?_⟩, st'.1.at fun o q => (sb.2 it (Ne.symm hne)).trans q, hne, hai, hae⟩, fun b hb => ?_⟩
    · have e1 : ((i + 1 : Nat) : Int) = (i : Int) + 1 := by omega
      rw [e1]
      exact he'
    · have hb' : b < s.heap.objs.size := by
        rcases List.mem_cons.mp hb with z | z
        · rw [z]; exact le
        · rw [List.mem_singleton.mp z]; exact li
      rw [upd_ne (Nat.ne_of_lt hb')]
      exact (hf b hb).1
  done := by
    intro X hP hw hK hc i pins s σ H E I hf st hg
    subst hP hw hK
    obtain ⟨⟨old, he⟩, hit, hne, hai, hae⟩ := st
    obtain ⟨xs, hq, hx⟩ := hg
    obtain ⟨its, rv, p, hz⟩ := I.tuple hq
    obtain ⟨k0, k1, k2, k3, k4, k5⟩ := hf it (by simp)
    have hl : its.toArray.size = i := by
      rw [List.size_toArray, ← rv.length]
      exact hx
    subst hl
    exact wpAny_pyNext_enum_endD (Draws.tuple (A := X.A.in1) (I.ok.hd hc) it a hai its.toArray) he ⟨hit, p⟩ fun h' eb => ⟨rfl, I.turned (t' := s.toks) (fun b o hb q => eb b o hb q) k0 k1 k3 k4 k5⟩
  self := fun A i s Q E st h => by
    obtain ⟨⟨_, he⟩, _⟩ := st
    exact wpAny_pyIter_enum he h
def iEnumT (K : PySem.W.Frag) (ta : TA) : TI := fun σ H R => ta σ H fun vs H1 => ∃ a xs, vs = [.ref a] ∧ SqT K H1 a xs ∧ R (IteT K a) H1
theorem pi_enumT {X : Cx} {e : Expr} {ta : TA} {p pos tpos : Pos} {elts : List Expr} {kk : Nat} (hg : Gl X "enumerate") (hm : X.mg "enumerate" = none) (ha : PA X [e] ta) (hs : starEach [e] X.env = [(false, eval e X.env)] := by rfl) :
    PI X (.Tuple elts kk tpos) (.Call (.Name "enumerate" p) [e] [] pos) (iEnumT X.K ta) := by
  constructor
  intro pins s σ H R I h
  refine Call_ (ld_blt I hg hm boot_enumerate (PyProof.Rows.callWith_type1 (thn (ha.run pos pins s σ H _ I h) fun us s1 ⟨vs, H1, I1, r1, a, xs, ex, hq, q⟩ => ?_) hs rfl))
  subst ex
  obtain rfl := Vals.ref1 r1
  obtain ⟨its, rv, ht, hz⟩ := I1.tuple hq
  have la : a < s1.heap.objs.size := by
    obtain ⟨o, ho, _⟩ := ht
    exact Heap.lt_size ho
  refine call_enumT ht fun h' he hit hsz hk => wpAny_pyIter_enum he ?_
  have I2 : Inv X pins σ H1 { s1 with heap := h' } := I1.kept (t' := s1.toks) hk
  refine ⟨s1.heap.objs.size + 1, [s1.heap.objs.size + 1, s1.heap.objs.size], _, _, H1, rfl, I2, turn_enumT a (s1.heap.objs.size + 1) s1.heap.objs.size, ⟨⟨.none, he⟩, hit, Nat.succ_ne_self _, Nat.ne_of_lt la, Nat.ne_of_lt (Nat.lt_succ_of_lt la)⟩, fun b hb => ?_, q⟩
  have hle : s1.heap.objs.size ≤ b := by
    rcases List.mem_cons.mp hb with z | z
    · rw [z]; exact Nat.le_add_right _ _
    · rw [List.mem_singleton.mp z]; exact Nat.le_refl _
  exact I1.fpOk hle (I1.hok.fresh hle)
theorem wi_enumT {X : Cx} {Γ : List (Option D)} {S : List Cell} {Φ : List D → (List Cell → Prop) → List Cell → Prop} {Ξ : XP} {e : Expr} {pos tpos p : Pos} {elts : List Expr} {kk : Nat} (hg : Gl X "enumerate") (hm : X.mg "enumerate" = none) (h : WE X e Γ S (fun d S1 => ∃ ds, d = .tup ds ∧ Φ (enumD ds) (fun _ => True) S1) Ξ) (hs : starEach [e] X.env = [(false, eval e X.env)] := by rfl) : WI X (.Tuple elts kk tpos) (.Call (.Name "enumerate" p) [e] [] pos) Γ S Φ Ξ :=
  have hw : WA X [e] Γ S (fun ds0 S1 => ∃ ds, ds0 = [.tup ds] ∧ Φ (enumD ds) (fun _ => True) S1) Ξ := by
    refine wa_cons (h.imp fun d S1 q => wa_nil ?_) hs
    obtain ⟨ds, q1, q2⟩ := q
    exact ⟨ds, by rw [q1], q2⟩
  ⟨_, pi_enumT hg hm (pa_s [e]) hs, fun σ ρ M H R W ok sl k kx tk => hw σ ρ M H _ W ok sl (fun ds0 S1 vs0 ρ1 M1 H1 ⟨ds, e0, p⟩ t1 ok1 r0 => by
    subst e0
    obtain ⟨v, rfl, r1⟩ := rps1 r0
    obtain ⟨a, vs, e1, q1, rs⟩ := rp_tup r1
    refine ⟨a, vs, by rw [e1], seqT ok1.sub q1, k _ (enumD ds) _ S1 ρ1 M1 H1 p t1 ok1 ?_⟩
    refine ⟨fun i S' ρ' M' H' t' ok' g' hi => ?_, fun i S' ρ' M' H' x H2 t' ok' g' hi y => ?_, fun S' ρ' M' H' t' ok' g' => ?_⟩
    · rw [enumD_len] at hi
      have hx : ds[i]? = some ds[i] := by simp [hi]
      obtain ⟨vx, ev, _⟩ := rs.get hx
      exact ⟨vs, vx, seqT ok'.sub (seqT t'.pm q1), ev⟩
    · obtain ⟨T, x', ex, hT, eH, y⟩ := y
      obtain ⟨dx, ed, rx⟩ := (t'.rps rs).getV (y vs (seqT ok'.sub (seqT t'.pm q1)))
      obtain ⟨ok2, t2⟩ := ok'.keep (o := .tup [.int (i : Nat), x']) hT
      subst ex eH
      exact ⟨_, _, enumD_get ed, t2, ok2, .tup (SqT.of upd_same) (.cons (.int _) (.cons (t2.rp rx) .nil))⟩
    · exact ⟨vs, seqT ok'.sub (seqT t'.pm q1), by rw [rs.length, enumD_len]⟩) kx tk⟩
end Ab
set_option Elab.async false
set_option linter.all false
set_option maxRecDepth 100000
set_option maxHeartbeats 4000000
/-! sorted(d.items()), d of texts. -/
namespace Ab
open PySem PySem.Spec PyProof.Rows L2
/-- all that is new stands for good -/
theorem Ok.grow {g : Gd} {S : List Cell} {ρ : List Addr} {M H H' : Hp} (k : Ok g S ρ M H) (h : ∀ b o, H b = some o → H' b = some o) : ∃ M', (∀ b, H b = none → M' b = H' b) ∧ Ok g S ρ M' H' ∧ To S ρ M H S ρ M' H' := by
  classical
  have pm : Same M (fun b => if H b = none then H' b else M b) := fun b o e => by
    have := k.sub b o e
    show (if H b = none then H' b else M b) = some o
    rw [if_neg (by rw [this]; simp)]
    exact e
  refine ⟨fun b => if H b = none then H' b else M b, fun b e => if_pos e, ⟨k.len, fun b o e => ?_, fun l c a e r => ?_, fun a ha => ?_, k.inj⟩, ⟨fun _ _ h => h, pm, fun a o e _ => h a o e, fun a ha => ?_, fun a h => .inr h⟩⟩
  · have e : (if H b = none then H' b else M b) = some o := e
    by_cases hb : H b = none
    · rw [if_pos hb] at e
      exact e
    · rw [if_neg hb] at e
      exact h b o (k.sub b o e)
  · exact (k.at_ l c a e r).mono pm (fun _ _ h => h) fun o q => h a o q
  · obtain ⟨o, q⟩ := k.live ha
    show (if H a = none then H' a else M a) = none
    rw [if_neg (by rw [q]; simp)]
    exact k.out a ha
  · have ha : (if H a = none then H' a else M a) ≠ none := ha
    by_cases hb : H a = none
    · exact .inr (.inl hb)
    · rw [if_neg hb] at ha
      exact .inl ha
def pyPair (e : Str × Str) : PyData := .tuple [.str e.1, .str e.2]
abbrev srtP (ks : List (Str × Str)) : List (Str × Str) := ks.mergeSort (PySem.W.dataLe false pyPair)
def txtK (ks : List (Str × Str)) : List (Key × V) := ks.map fun e => (.inr e.1, .str e.2)
def rSortIS : List V → Hp → VK → Prop := fun xs H Q => ∃ (p a : Addr) (ks : List (Str × Str)), xs = [.ref p] ∧ H p = some (L2.DX.itemsO p a) ∧ H a = some (.dK (txtK ks)) ∧ ks.length ≤ 1000 ∧
  ∀ (H' : Hp) (l : Addr) (ps : List (Addr × Str × Str)), (∀ b o, H b = some o → H' b = some o) → ps.map (fun z => z.2) = srtP ks → H l = none → H' l = some (.lst (ps.map fun z => V.ref z.1)) → (∀ z ∈ ps, H z.1 = none ∧ H' z.1 = some (.tup [.str z.2.1, .str z.2.2])) → Q (.ref l) H'
theorem pairs_at {K : Type} [DecidableEq K] {prog : Program} {w : World} {knd : PySem.KeyKind prog w K} : ∀ {es : List DictEntry} {kvs : List (K × Value)} {j : Nat} {e : DictEntry}, Pairs knd es kvs → es[j]? = some e → ∃ kv, kvs[j]? = some kv ∧ knd.is kv.1 e.key = true ∧ e.val = kv.2
  | _, _, _, _, .nil, h => by simp at h
  | _, _, 0, _, .cons a b _, h => by
    simp at h
    subst h
    exact ⟨_, rfl, a, b⟩
  | _, _, j + 1, e, .cons _ _ t, h => by
    obtain ⟨kv, h1, h2⟩ := pairs_at (j := j) (e := e) t (by simpa using h)
    exact ⟨kv, by simpa using h1, h2⟩
theorem pairs_len {K : Type} [DecidableEq K] {prog : Program} {w : World} {knd : PySem.KeyKind prog w K} : ∀ {es : List DictEntry} {kvs : List (K × Value)}, Pairs knd es kvs → es.length = kvs.length
  | _, _, .nil => rfl
  | _, _, .cons _ _ t => congrArg Nat.succ (pairs_len t)
theorem kv_txt {ks : List (Str × Str)} {vs : List (Key × Value)} (h : KV (txtK ks) vs) {j : Nat} {q : Key × Value} (hj : vs[j]? = some q) : ∃ e t, ks[j]? = some e ∧ q.1 = .inr e.1 ∧ q.2 = .str e.2 t := by
  obtain ⟨p, h1, h2, h3⟩ := L2.DX.pget h hj
  unfold txtK at h1
  rw [List.getElem?_map] at h1
  obtain ⟨e, h4, h5⟩ := Option.map_eq_some_iff.mp h1
  subst h5
  obtain ⟨t, h6⟩ := h3
  exact ⟨e, t, h4, h2.symm, h6⟩
theorem each_zip2 {α β : Type} {R : Value → α × β → Prop} {f : α → Value} : ∀ {as : List α} {ks : List β}, as.length = ks.length → (∀ (j : Nat) (a : α) (k : β), as[j]? = some a → ks[j]? = some k → R (f a) (a, k)) → PySem.W.EachIs R (as.map f) (as.zip ks)
  | [], [], _, _ => .nil
  | [], _ :: _, h, _ => by cases h
  | _ :: _, [], h, _ => by cases h
  | a :: as, k :: ks, h, hh => .cons (hh 0 a k rfl rfl) (each_zip2 (Nat.succ.inj h) fun j x y h1 h2 => hh (j + 1) x y (by simpa using h1) (by simpa using h2))
theorem out_refs : ∀ {us : List Value} {bs : List (Addr × Str × Str)}, PySem.W.EachIs (fun u b => u = Value.ref b.1) us bs → us = bs.map fun b => Value.ref b.1
  | _, _, .nil => rfl
  | _, _, .cons h t => by rw [h, out_refs t]; rfl
theorem vals_refs : ∀ bs : List (Addr × Str × Str), Vals (bs.map fun z => V.ref z.1) (bs.map fun z => Value.ref z.1)
  | [] => .nil
  | _ :: bs => .cons rfl (vals_refs bs)
theorem cr_sortIS {X : Cx} (hc : X.calm = true) (hu : X.A.units + 16 < cLine) : CallR X (.builtin "sorted") rSortIS := by
  intro pins s σ H xs us Q I r h
  obtain ⟨p, a, ks, rfl, hp, ha, hz, q⟩ := h
  obtain rfl := Vals.ref1 r
  have view : s.heap.IsItemsView p a := (show ObjOk X.prog X.w H s.heap p (L2.DX.itemsO p a) from I.hok p _ hp).1
  obtain ⟨_, hsys, vs, rel, o, es, ep, ho, hx, hdat, _, prs, _⟩ := dk_of I.hok ha
  have n1 : es.size = ks.length := by
    have e1 := pairs_len prs
    have e2 := Paired.length rel
    rw [txtK, List.length_map] at e2
    rw [← Array.length_toList, e1, ← e2]
  refine DT.sortedI (es := es) (ep := ep) (I.ok.hd hc) view ⟨o, ho, hx, hdat⟩ (by rw [sizeLine_eq]; omega) fun h' tk as hk hlt hl hG => ?_
  have n2 : as.length = ks.length := by omega
  have nodup : as.Nodup := List.Pairwise.imp (fun h => Nat.ne_of_lt h) hG.rise
  have made : ∀ (j : Nat) (b : Addr), as[j]? = some b → ∃ e t t', ks[j]? = some e ∧ h'.get? b = some { cls := .type "tuple", data := .seq #[Value.str e.1 t, Value.str e.2 t'] } := by
    intro j b hj
    obtain ⟨en, he, hg⟩ := hG.pairs j b hj
    obtain ⟨kv, h1, h2, h3⟩ := pairs_at prs (j := j) (e := en) (by rw [Array.getElem?_toList]; exact he)
    obtain ⟨e, t', h4, h5, h6⟩ := kv_txt rel h1
    rw [h5] at h2
    obtain ⟨t, h7⟩ := Value.isStrOf_shape (x := e.1) (v := en.key) h2
    refine ⟨e, t, t', h4, ?_⟩
    rw [hg, h7, h3, h6]
  have lay : (h'.push { cls := .type "list", data := .seq (as.map Value.ref).toArray }).get? h'.objs.size = some (seqObj "list" (as.map Value.ref).toArray 0) := Heap.get?_push_size _ rfl
  have up : ∀ b ob, h'.get? b = some ob → (h'.push { cls := .type "list", data := .seq (as.map Value.ref).toArray }).get? b = some ob := fun b ob e => Heap.get?_push_of_some _ e
  have notl : ∀ b ob, h'.get? b = some ob → b ≠ h'.objs.size := fun b ob e => Nat.ne_of_lt (Heap.lt_size e)
  generalize hh2 : h'.push { cls := .type "list", data := .seq (as.map Value.ref).toArray } = h2 at lay up ⊢
  have e1 : PySem.W.EachIs (fun u b => u = Value.ref b.1) (as.map Value.ref) (as.zip ks) := each_zip2 n2 fun j x y _ _ => rfl
  have e2 : PySem.W.EachIs (fun u (b : Addr × Str × Str) => ∃ cs, Reads h2 u (pyPair b.2) cs ∧ h'.objs.size ∉ cs) (as.map Value.ref) (as.zip ks) := each_zip2 n2 fun j x y h3 h4 => by
    obtain ⟨e, t, t', h5, h6⟩ := made j x h3
    rw [h4] at h5
    cases h5
    exact ⟨[], .tuple (up _ _ h6) rfl rfl (.cons (.str _ _) (.cons (.str _ _) .nil)), by simp⟩
  refine PySem.W.list_sort_data (s := { s with heap := h2, toks := tk }) (bs := as.zip ks) (enc := fun b => pyPair b.2) lay e1 e2 (PySem.W.AllAlike.of fun b b' => by simp [pyPair, PySem.W.alike, PySem.W.alikeAll]) (PySem.W.Sortable.tuples fun b => ⟨_, _, rfl⟩) (by rw [List.length_zip, sizeLine_eq]; omega) (fun b _ => ?_) fun out ol eo => ?_
  · have hd : (pyPair b.2).depth = 1 := by simp [pyPair, PyData.depth, PyData.depthAll]
    show X.A.units + 1 + 1 + _ < cLine
    rw [hd]
    omega
  generalize hzs : (as.zip ks).mergeSort (PySem.W.dataLe false fun b => pyPair b.2) = zs at eo
  have zperm : zs.Perm (as.zip ks) := by rw [← hzs]; exact List.mergeSort_perm _ _
  have zsnd : zs.map (fun z => z.2) = srtP ks := by
    have ms := List.map_mergeSort (r := PySem.W.dataLe false fun b : Addr × Str × Str => pyPair b.2) (s := PySem.W.dataLe false pyPair) (f := fun b : Addr × Str × Str => b.2) (l := as.zip ks) (fun a _ b _ => rfl)
    have m2 : (as.zip ks).map (fun z => z.2) = ks := List.map_snd_zip (Nat.le_of_eq n2.symm)
    rw [← hzs, ms, m2]
  have idx : ∀ z ∈ zs, ∃ j : Nat, as[j]? = some z.1 ∧ ks[j]? = some z.2 := fun z hz => by
    obtain ⟨j, hj⟩ := List.mem_iff_getElem?.mp (zperm.mem_iff.mp hz)
    exact ⟨j, List.getElem?_zip_eq_some.mp hj⟩
  have oute := out_refs eo
  have keepF : ∀ b ob, b ≠ h'.objs.size → h2.get? b = some ob → (sortedHeap h2 h'.objs.size (as.map Value.ref) out.toArray).get? b = some ob := fun b ob hb e => (PyProof.Rows.sortedHeap_old hb (Heap.lt_size e)).trans e
  have keepS : ∀ b ob, s.heap.get? b = some ob → (sortedHeap h2 h'.objs.size (as.map Value.ref) out.toArray).get? b = some ob := fun b ob e => keepF b ob (notl _ _ (hk b ob e)) (up b ob (hk b ob e))
  obtain ⟨c, hcF⟩ := PyProof.Rows.sortedHeap_at (vs := as.map Value.ref) (out := out.toArray) lay
  have hn0 : H h'.objs.size = none := I.hok.fresh (Nat.le_of_lt hlt)
  have hlen : (zs.map fun z => V.ref z.1).length ≤ sizeLine := by
    rw [List.length_map, zperm.length_eq, List.length_zip, sizeLine_eq]
    omega
  have rv : Vals (zs.map fun z => V.ref z.1) out := by
    rw [oute]
    exact vals_refs zs
  have J1 : Inv X pins σ H { s with heap := sortedHeap h2 h'.objs.size (as.map Value.ref) out.toArray, toks := tk } := I.kept (t' := tk) keepS
  have J2 : Inv X pins σ (upd H h'.objs.size (.lst (zs.map fun z => V.ref z.1))) { s with heap := sortedHeap h2 h'.objs.size (as.map Value.ref) out.toArray, toks := tk } :=
    J1.take (h' := sortedHeap h2 h'.objs.size (as.map Value.ref) out.toArray) (t' := tk) (fun b ob _ e => e) (I.fpOk (Nat.le_of_lt hlt) hn0) ⟨hlen, out, c, rv, hcF⟩
  obtain ⟨H2, J3, gr, qt⟩ := L2.DX.takeT (P := fun b vs => ∃ (j : Nat) (e : Str × Str), as[j]? = some b ∧ ks[j]? = some e ∧ vs = [.str e.1, .str e.2]) I as _ J2 nodup fun b hb => by
    obtain ⟨j, hj⟩ := List.mem_iff_getElem?.mp hb
    obtain ⟨e, t, t', he, hg⟩ := made j b hj
    have above : s.heap.objs.size ≤ b := Nat.le_of_lt (hG.above b hb)
    refine ⟨above, ?_, [.str e.1, .str e.2], ⟨j, e, hj, he, rfl⟩, fun H3 => ⟨(by rw [sizeLine_eq]; show 2 ≤ 16777216; omega), [Value.str e.1 t, Value.str e.2 t'], .cons ⟨t, rfl⟩ (.cons ⟨t', rfl⟩ .nil), _, keepF _ _ (notl _ _ hg) (up _ _ hg), rfl, 0, rfl⟩⟩
    rw [upd_ne (notl _ _ hg)]
    exact I.hok.fresh above
  refine ⟨.ref h'.objs.size, H2, J3, rfl, q H2 h'.objs.size zs (fun b ob e => gr b ob (by rw [upd_ne (ne_of_none e hn0)]; exact e)) zsnd hn0 (gr _ _ upd_same) fun z hz => ?_⟩
  obtain ⟨i, i1, i2⟩ := idx z hz
  have hm := List.mem_of_getElem? i1
  obtain ⟨vs', ⟨j, e, j1, j2, ev⟩, hH⟩ := qt z.1 hm
  have eij : i = j := (List.getElem?_inj (List.getElem?_eq_some_iff.mp i1).1 nodup).mp (i1.trans j1.symm)
  subst eij
  have ee : e = z.2 := Option.some.inj (j2.symm.trans i2)
  rw [ev, ee] at hH
  exact ⟨I.hok.fresh (Nat.le_of_lt (hG.above _ hm)), hH⟩
end Ab
set_option Elab.async false
set_option linter.all false
set_option maxRecDepth 100000
set_option maxHeartbeats 4000000
/-! sorted(d.items()) over the store. -/
namespace Ab
open PySem PySem.Spec PyProof.Rows L2
section
variable {X : Cx} {Γ : List (Option D)} {S : List Cell} {Φ : D → List Cell → Prop} {Ξ : XP} {e : Expr} {p pos apos cpos : Pos}
def rItemsK : V → List V → Hp → VK → Prop := fun x xs H Q => ∃ (a : Addr) (kvs : List (Key × V)), x = .ref a ∧ xs = [] ∧ H a = some (.dK kvs) ∧ ∀ p, H p = none → Q (.ref p) (upd H p (L2.DX.itemsO p a))
theorem mt_itemsK : MtR X "dict.items" rItemsK := by
  intro pins s σ H x xs v us Q I rx rxs h
  obtain ⟨a, kvs, rfl, rfl, ha, q⟩ := h
  obtain rfl : v = Value.ref a := rx
  cases rxs
  obtain ⟨_, hsys, vs, rel, o, es, ep, ho, hx, hdat, _⟩ := dk_of I.hok ha
  refine DT.callItems (es := es) (ep := ep) hsys ⟨o, ho, hx, hdat⟩ ?_
  exact ⟨.ref s.heap.objs.size, _, I.laid (t' := s.toks) (fun b u e => Heap.get?_push_of_some _ e) (Nat.le_refl _) (L2.DX.itemsO_ok (Heap.get?_push_size _ rfl)), rfl, q _ (I.hok.fresh (Nat.le_refl _))⟩
def txtA (ks : List (Str × Str)) : List (Key × D) := ks.map fun e => (.inr e.1, .str e.2)
theorem txt_rk {g : Gd} {M : Hp} {ρ : List Addr} : ∀ {ks : List (Str × Str)} {kvV : List (Key × V)}, RK g M ρ kvV (txtA ks) → kvV = txtK ks
  | [], kvV, h => by
    have := h.length
    simp [txtA] at this
    subst this
    rfl
  | e :: ks, [], h => by have := h.length; simp [txtA] at this
  | e :: ks, q :: kvV, h => by
    obtain ⟨a, b, c⟩ := h.cons_inv
    have ih := txt_rk c
    obtain ⟨q1, q2⟩ := q
    have := rp_str b
    subst this ih
    have a : q1 = _ := a
    subst a
    rfl
theorem we_sortItems (hc : X.calm = true) (hu : X.A.units + 16 < cLine) (hg : Gl X "sorted") (hm : X.mg "sorted" = none) (h : WE X e Γ S (fun d S1 => ∃ ks, DicK S1 d (txtA ks) ∧ ks.length ≤ 1000 ∧ Φ (.lst ((srtP ks).map fun q => .tup [.str q.1, .str q.2])) S1) Ξ)
    (hbase : attributeBase e "items" X.env (eval e X.env) = eval e X.env := by rfl) (hline : (apos.endLine == cpos.line) = true := by rfl)
    (he : starEach [.Call (.Attribute e "items" apos) [] [] cpos] X.env = [(false, eval (.Call (.Attribute e "items" apos) [] [] cpos) X.env)] := by rfl) : WE X (.Call (.Name "sorted" p) [.Call (.Attribute e "items" apos) [] [] cpos] [] pos) Γ S Φ Ξ :=
  fun σ ρ M H Q W ok sl kv kx tk => PE.s (pe_callB (cr_sortIS hc hu) hg hm boot_sorted (pa_cons (pe_bm0 (T := "dict") F.plainAttrs_dict F.slot_dict_items F.type_dict_items mt_itemsK (pe_s e) hbase hline) pa_nil he) (he := he) (hpl := rfl)) (h σ ρ M H _ W ok sl (fun d S1 v ρ1 M1 H1 ⟨ks, hx, hz, q⟩ t1 ok1 r1 => by
    obtain ⟨a, kvV, e1, q1, rk⟩ := hx.at ok1 r1
    have := txt_rk rk
    subst this e1
    refine ⟨.inr (.inr (.inl ⟨rfl, .inl ⟨_, q1⟩⟩)), a, _, rfl, rfl, q1, fun b hb => ?_⟩
    have nb : a ≠ b := fun z => by rw [z, hb] at q1; cases q1
    refine ⟨b, a, ks, rfl, upd_same, by rw [upd_ne nb]; exact q1, hz, fun H2 l ps gr e2 hl eL ht => ?_⟩
    obtain ⟨ok2, t2⟩ := ok1.extra (o := L2.DX.itemsO b a) hb
    obtain ⟨M3, new, ok3, t3⟩ := ok2.grow gr
    refine kv _ S1 _ ρ1 _ _ q ((t1.trans t2).trans t3) ok3 (.lst (SqL.of ((new l hl).trans eL)) ?_)
    rw [← e2, List.map_map]
    clear e2 eL
    induction ps with
    | nil => exact .nil
    | cons z ps ih =>
      obtain ⟨h1, h2⟩ := ht z List.mem_cons_self
      exact .cons (.tup (SqT.of ((new _ h1).trans h2)) (.cons (.str _) (.cons (.str _) .nil))) (ih fun y hy => ht y (List.mem_cons_of_mem _ hy))) kx tk)
end
end Ab
set_option Elab.async false
set_option linter.all false
set_option maxRecDepth 100000
set_option maxHeartbeats 4000000
/-! isinstance of plain data; zip; order of data; a call of a local name. -/
namespace Ab
open PySem PySem.Spec PyProof.Rows L2
section
variable {X : Cx} {Γ : List (Option D)} {S : List Cell} {Φ : D → List Cell → Prop} {Ξ : XP} {o i e f v : Expr} {pos apos cpos pos' p : Pos} {g : Gd}
/-! ### isinstance -/
def tyD : D → Option String
  | .str _ => some "str"
  | .int _ => some "int"
  | .bl _ => some "bool"
  | .non => some "NoneType"
  | .tup _ => some "tuple"
  | .ptup _ => some "tuple"
  | .lst _ => some "list"
  | _ => none
theorem tyx_tup {K : PySem.W.Frag} {H : Hp} {a : Addr} {vs : List V} (h : SqT K H a vs) : TyX K H (.ref a) (.type "tuple") := by
  rcases h with (h | ⟨o, h⟩) | ⟨o, its, n, s1, s2, _⟩
  · exact .base (.tup h)
  · exact .fTuple h
  · exact .kTuple s1 s2
theorem tyx_of {ρ : List Addr} {M H : Hp} (ok : Ok g S ρ M H) {d : D} {vx : V} {t : String} (r : Rp g M ρ vx d) (h : tyD d = some t) : TyX g.K H vx (.type t) := by
  cases r with
  | str s => cases h; exact .base (.str s)
  | int s => cases h; exact .base (.int s)
  | bl s => cases h; exact .base (.bl s)
  | non => cases h; exact .base .non
  | tup s r => cases h; exact tyx_tup (seqT ok.sub s)
  | ptup s n r => cases h; exact .fTuple (ok.sub _ _ s)
  | lst s r =>
    cases h
    rcases s with (s | ⟨o, s⟩) | ⟨o, its, n, s1, s2, _⟩
    · exact .base (.lst (ok.sub _ _ s))
    · exact .base (.frz (ok.sub _ _ s))
    · exact .kList s1 s2
  | _ => cases h
theorem we_isT {x : Str} {T : String} (hg : Gl X "isinstance") (hm : X.mg "isinstance" = none) (hg2 : Gl X x) (hm2 : X.mg x = none) (hv : bootBuiltins x = some (.type T)) (h : WE X e Γ S (fun d S1 => ∃ t b, tyD d = some t ∧ kitB t T = some b ∧ Φ (.bl b) S1) Ξ) (hn : x ≠ "__name__" := by decide) (hdb : (x == ("__debug__" : Str)) = false := by decide)
    (he : starEach (e :: [.Name x pos']) X.env = (false, eval e X.env) :: starEach [.Name x pos'] X.env := by rfl) (he2 : starEach [.Name x pos'] X.env = (false, eval (.Name x pos') X.env) :: starEach [] X.env := by rfl) (hpl : (backTo pos (starEach [.Name x pos'] X.env)).any (·.1) = false := by rfl) : WE X (.Call (.Name "isinstance" p) [e, .Name x pos'] [] pos) Γ S Φ Ξ :=
  we_callB call_isi hg hm boot_isinstance (wa_cons (h.imp fun d S1 ⟨t, b, ht, hb, q⟩ => wa_cons (we_bltnTy hg2 hm2 hv (wa_nil (fun ρ M H vs Q ok rs kv => by
    cases rs with
    | cons r1 tl =>
      obtain ⟨u, rfl, r2⟩ := rps1 tl
      cases r2
      exact ⟨_, _, .type t, .type T, b, rfl, .ty _, tyx_of ok r1 ht, kit_ty hb, kv _ S1 _ ρ M H q .refl ok (.bl b)⟩)) hn hdb) he2) he) (he := he) (hpl := hpl)
theorem boot_ty_int : bootBuiltins "int" = some (.type "int") := by decide +kernel
theorem boot_ty_str : bootBuiltins "str" = some (.type "str") := by decide +kernel
theorem boot_ty_bool : bootBuiltins "bool" = some (.type "bool") := by decide +kernel
theorem boot_ty_tuple : bootBuiltins "tuple" = some (.type "tuple") := by decide +kernel
/-! ### the order of data -/
open PySem.W in
def rDatR (K : PySem.W.Frag) (f : PyData → PyData → Bool) : R2 := fun x y H Q => ∃ d e, Dp K H x d ∧ Dp K H y e ∧ alike d e = true ∧ d ≠ .none ∧ d.depth ≤ 64 ∧ Q (.bl (f d e)) H
theorem op_ltD (hu : X.A.units + 64 < cLine) : OpR X (compareOp .Lt) (rDatR X.K fun d e => PySem.W.dataLt d e) := by
  intro pins s σ H x y v u Q I rx ry h
  obtain ⟨d, e, hd, he, al, nn, dp, q⟩ := h
  obtain ⟨as, r1⟩ := Dp.reads I d x v hd rx
  obtain ⟨bs, r2⟩ := Dp.reads I e y u he ry
  exact PySem.W.lt_data r1 r2 al nn (by have := Nat.min_le_left d.depth e.depth; omega) ⟨.bl _, H, I, rfl, q⟩
theorem op_gtD (hu : X.A.units + 64 < cLine) : OpR X (compareOp .Gt) (rDatR X.K fun d e => PySem.W.dataLt e d) := by
  intro pins s σ H x y v u Q I rx ry h
  obtain ⟨d, e, hd, he, al, nn, dp, q⟩ := h
  obtain ⟨as, r1⟩ := Dp.reads I d x v hd rx
  obtain ⟨bs, r2⟩ := Dp.reads I e y u he ry
  exact PySem.W.gt_data r1 r2 al nn (by have := Nat.min_le_left d.depth e.depth; omega) ⟨.bl _, H, I, rfl, q⟩
theorem op_leD (hu : X.A.units + 64 < cLine) : OpR X (compareOp .LtE) (rDatR X.K fun d e => !PySem.W.dataLt e d) := by
  intro pins s σ H x y v u Q I rx ry h
  obtain ⟨d, e, hd, he, al, nn, dp, q⟩ := h
  obtain ⟨as, r1⟩ := Dp.reads I d x v hd rx
  obtain ⟨bs, r2⟩ := Dp.reads I e y u he ry
  exact PySem.W.le_data r1 r2 al nn (by have := Nat.min_le_left d.depth e.depth; omega) ⟨.bl _, H, I, rfl, q⟩
theorem r2_dat {f : PyData → PyData → Bool} {x y d e : D} (hx : NowD S x d) (hy : NowD S y e) (h1 : okD d = true) (h2 : plainD e = true) (al : PySem.W.alike (toPy d) (toPy e) = true) (nn : d ≠ .non) (h : Φ (.bl (f (toPy d) (toPy e))) S) : R2s g (rDatR g.K f) x y S Φ := fun ρ M H vx vy Q ok rx ry kv => by
  have hd : depD d ≤ 64 := by
    have := h1
    unfold okD at this
    simp only [Bool.and_eq_true, decide_eq_true_eq] at this
    exact this.2
  refine ⟨_, _, hx.dp (okD_plain h1) ok rx, hy.dp h2 ok ry, al, fun z => ?_, Nat.le_trans (dep_py d) hd, kv _ S _ ρ M H h .refl ok (.bl _)⟩
  have pl := okD_plain h1
  cases d <;> first | exact nn rfl | (simp [toPy] at z; done) | (simp [plainD] at pl; done)
theorem r2_ltS {a b : Str} (h : Φ (.bl (decide (a.cps.toList < b.cps.toList))) S) : R2s g (fun x y H Q => ∃ i j, x = .str i ∧ y = .str j ∧ Q (.bl (decide (i.cps.toList < j.cps.toList))) H) (.str a) (.str b) S Φ := fun ρ M H vx vy Q ok rx ry kv => ⟨a, b, rp_str rx, rp_str ry, kv _ S _ ρ M H h .refl ok (.bl _)⟩
theorem r2_leS {a b : Str} (h : Φ (.bl (!decide (b.cps.toList < a.cps.toList))) S) : R2s g (fun x y H Q => ∃ i j, x = .str i ∧ y = .str j ∧ Q (.bl (!decide (j.cps.toList < i.cps.toList))) H) (.str a) (.str b) S Φ := fun ρ M H vx vy Q ok rx ry kv => ⟨a, b, rp_str rx, rp_str ry, kv _ S _ ρ M H h .refl ok (.bl _)⟩
theorem r2_inSg {c : Nat} {z : Str} (h : Φ (.bl (decide (c ∈ z.cps.toList))) S) : R2s g (fun x y H Q => ∃ (c : Nat) (z : Str), x = .str ⟨#[c]⟩ ∧ y = .str z ∧ Q (.bl (decide (c ∈ z.cps.toList))) H) (.str ⟨#[c]⟩) (.str z) S Φ := fun ρ M H vx vy Q ok rx ry kv => ⟨c, z, rp_str rx, rp_str ry, kv _ S _ ρ M H h .refl ok (.bl _)⟩
end
/-! ### zip -/
section
variable {X : Cx} {Γ : List (Option D)} {S : List Cell} {Φ : List D → (List Cell → Prop) → List Cell → Prop} {Ξ : XP} {e e2 : Expr} {pos tpos p : Pos} {elts : List Expr} {kk : Nat}
def zipD (xs ys : List D) : List D := (xs.zip ys).map fun q => .tup [q.1, q.2]
theorem zipD_len (xs ys : List D) : (zipD xs ys).length = min xs.length ys.length := by rw [zipD, List.length_map, List.length_zip]
theorem zipD_get {xs ys : List D} {i : Nat} {x y : D} (h1 : xs[i]? = some x) (h2 : ys[i]? = some y) : (zipD xs ys)[i]? = some (.tup [x, y]) := by
  rw [zipD, List.getElem?_map, (List.getElem?_zip_eq_some (z := (x, y))).mpr ⟨h1, h2⟩]
  rfl
theorem zipD_inv {xs ys : List D} {i : Nat} {z : D} (h : (zipD xs ys)[i]? = some z) : ∃ x y, xs[i]? = some x ∧ ys[i]? = some y ∧ z = .tup [x, y] := by
  rw [zipD, List.getElem?_map] at h
  obtain ⟨q, hq, rfl⟩ := Option.map_eq_some_iff.mp h
  obtain ⟨h1, h2⟩ := List.getElem?_zip_eq_some.mp hq
  exact ⟨q.1, q.2, h1, h2, rfl⟩
theorem rps2 {g : Gd} {ρ : List Addr} {M : Hp} {vs : List V} {d d2 : D} (r : Rps g M ρ vs [d, d2]) : ∃ v v2, vs = [v, v2] ∧ Rp g M ρ v d ∧ Rp g M ρ v2 d2 := by
  cases r with
  | cons r t =>
    obtain ⟨v2, rfl, r2⟩ := rps1 t
    exact ⟨_, _, rfl, r, r2⟩
theorem get_lt {α : Type} {l : List α} {i : Nat} (h : i < l.length) : ∃ x, l[i]? = some x := ⟨l[i], by simp [h]⟩
/-- zip of two tuples -/
theorem wi_zipT (hg : Gl X "zip") (hm : X.mg "zip" = none) (h : WE X e Γ S (fun d S1 => WE X e2 Γ S1 (fun d2 S2 => ∃ xs ys, d = .tup xs ∧ d2 = .tup ys ∧ Φ (zipD xs ys) (fun _ => True) S2) Ξ) Ξ)
    (hs : starEach [e, e2] X.env = (false, eval e X.env) :: starEach [e2] X.env := by rfl) (hs2 : starEach [e2] X.env = (false, eval e2 X.env) :: starEach [] X.env := by rfl) (hpl : (backTo pos (starEach [e2] X.env)).any (·.1) = false := by rfl) : WI X (.Tuple elts kk tpos) (.Call (.Name "zip" p) [e, e2] [] pos) Γ S Φ Ξ :=
  have hw : WA X [e, e2] Γ S (fun ds0 S1 => ∃ xs ys, ds0 = [.tup xs, .tup ys] ∧ Φ (zipD xs ys) (fun _ => True) S1) Ξ := by
    refine wa_cons (h.imp fun d S1 q => wa_cons (q.imp fun d2 S2 q => wa_nil ?_) hs2) hs
    obtain ⟨xs, ys, q1, q2, q3⟩ := q
    exact ⟨xs, ys, by rw [q1, q2], q3⟩
  ⟨_, RZ.pi_zipA hg hm (pa_s [e, e2]) hs hpl, fun σ ρ M H R W ok sl k kx tk => hw σ ρ M H _ W ok sl (fun ds0 S1 vs0 ρ1 M1 H1 ⟨xs, ys, e0, q⟩ t1 ok1 r0 => by
    subst e0
    obtain ⟨v, v2, rfl, r1, r2⟩ := rps2 r0
    obtain ⟨a, us, e1, q1, rs1⟩ := rp_tup r1
    obtain ⟨b, ws, e2, q2, rs2⟩ := rp_tup r2
    refine ⟨a, b, us, ws, by rw [e1, e2], .inr ⟨seqT ok1.sub q1, seqT ok1.sub q2, k _ (zipD xs ys) _ S1 ρ1 M1 H1 q t1 ok1 ?_⟩⟩
    refine ⟨fun i S' ρ' M' H' t' ok' g' hi => ?_, fun i S' ρ' M' H' x H2 t' ok' g' hi y => ?_, fun S' ρ' M' H' t' ok' g' => ?_⟩
    · rw [zipD_len] at hi
      obtain ⟨x, hx⟩ := get_lt (l := xs) (i := i) (by omega)
      obtain ⟨y, hy⟩ := get_lt (l := ys) (i := i) (by omega)
      obtain ⟨vx, ev, _⟩ := rs1.get hx
      obtain ⟨vy, ew, _⟩ := rs2.get hy
      exact ⟨us, ws, vx, vy, seqT ok'.sub (seqT t'.pm q1), seqT ok'.sub (seqT t'.pm q2), ev, ew⟩
    · obtain ⟨T, x', y', ex, hT, eH, z1, z2⟩ := y
      obtain ⟨dx, ed, rx⟩ := (t'.rps rs1).getV (z1 us (seqT ok'.sub (seqT t'.pm q1)))
      obtain ⟨dy, ed2, ry⟩ := (t'.rps rs2).getV (z2 ws (seqT ok'.sub (seqT t'.pm q2)))
      obtain ⟨ok2, t2⟩ := ok'.keep (o := .tup [x', y']) hT
      subst ex eH
      exact ⟨_, _, zipD_get ed ed2, t2, ok2, .tup (SqT.of upd_same) (.cons (t2.rp rx) (.cons (t2.rp ry) .nil))⟩
    · refine ⟨us, ws, seqT ok'.sub (seqT t'.pm q1), seqT ok'.sub (seqT t'.pm q2), ?_⟩
      rw [rs1.length, rs2.length, zipD_len]
      omega) kx tk⟩
/-- zip of two lists -/
theorem wi_zipL (hg : Gl X "zip") (hm : X.mg "zip" = none) (h : WE X e Γ S (fun d S1 => WE X e2 Γ S1 (fun d2 S2 => ∃ xs ys, LstD S2 d xs ∧ LstD S2 d2 ys ∧ Φ (zipD xs ys) (fun S' => LstD S' d xs ∧ LstD S' d2 ys) S2) Ξ) Ξ)
    (hs : starEach [e, e2] X.env = (false, eval e X.env) :: starEach [e2] X.env := by rfl) (hs2 : starEach [e2] X.env = (false, eval e2 X.env) :: starEach [] X.env := by rfl) (hpl : (backTo pos (starEach [e2] X.env)).any (·.1) = false := by rfl) : WI X (.Tuple elts kk tpos) (.Call (.Name "zip" p) [e, e2] [] pos) Γ S Φ Ξ :=
  have hw : WA X [e, e2] Γ S (fun ds0 S1 => ∃ d d2 xs ys, ds0 = [d, d2] ∧ LstD S1 d xs ∧ LstD S1 d2 ys ∧ Φ (zipD xs ys) (fun S' => LstD S' d xs ∧ LstD S' d2 ys) S1) Ξ := by
    refine wa_cons (h.imp fun d S1 q => wa_cons (q.imp fun d2 S2 q => wa_nil ?_) hs2) hs
    obtain ⟨xs, ys, q1, q2, q3⟩ := q
    exact ⟨d, d2, xs, ys, rfl, q1, q2, q3⟩
  ⟨_, RZ.pi_zipA hg hm (pa_s [e, e2]) hs hpl, fun σ ρ M H R W ok sl k kx tk => hw σ ρ M H _ W ok sl (fun ds0 S1 vs0 ρ1 M1 H1 ⟨d, d2, xs, ys, e0, l1, l2, q⟩ t1 ok1 r0 => by
    subst e0
    obtain ⟨v, v2, rfl, r1, r2⟩ := rps2 r0
    obtain ⟨a, us, e1, q1, rs1⟩ := l1.at ok1 r1
    obtain ⟨b, ws, e2, q2, rs2⟩ := l2.at ok1 r2
    refine ⟨a, b, us, ws, by rw [e1, e2], .inl ⟨q1, q2, k _ (zipD xs ys) _ S1 ρ1 M1 H1 q t1 ok1 ?_⟩⟩
    have get : ∀ S' ρ' M' H', Up ρ1 M1 ρ' M' → Ok (gd X) S' ρ' M' H' → (LstD S' d xs ∧ LstD S' d2 ys) → ∃ us' ws', SqL X.K H' a us' ∧ Rps (gd X) M' ρ' us' xs ∧ SqL X.K H' b ws' ∧ Rps (gd X) M' ρ' ws' ys := fun S' ρ' M' H' t' ok' ⟨g1, g2⟩ => by
      obtain ⟨a', us', e', q', rs'⟩ := g1.at ok' (t'.rp r1)
      obtain ⟨b', ws', f', p', ss'⟩ := g2.at ok' (t'.rp r2)
      rw [e1] at e'
      rw [e2] at f'
      cases e'
      cases f'
      exact ⟨us', ws', q', rs', p', ss'⟩
    refine ⟨fun i S' ρ' M' H' t' ok' g' hi => ?_, fun i S' ρ' M' H' x H2 t' ok' g' hi y => ?_, fun S' ρ' M' H' t' ok' g' => ?_⟩
    · obtain ⟨us', ws', q', rs', p', ss'⟩ := get S' ρ' M' H' t' ok' g'
      rw [zipD_len] at hi
      obtain ⟨x, hx⟩ := get_lt (l := xs) (i := i) (by omega)
      obtain ⟨y, hy⟩ := get_lt (l := ys) (i := i) (by omega)
      obtain ⟨vx, ev, _⟩ := rs'.get hx
      obtain ⟨vy, ew, _⟩ := ss'.get hy
      exact ⟨us', ws', vx, vy, q', p', ev, ew⟩
    · obtain ⟨us', ws', q', rs', p', ss'⟩ := get S' ρ' M' H' t' ok' g'
      obtain ⟨T, x', y', ex, hT, eH, z1, z2⟩ := y
      obtain ⟨dx, ed, rx⟩ := rs'.getV (z1 us' q')
      obtain ⟨dy, ed2, ry⟩ := ss'.getV (z2 ws' p')
      obtain ⟨ok2, t2⟩ := ok'.keep (o := .tup [x', y']) hT
      subst ex eH
      exact ⟨_, _, zipD_get ed ed2, t2, ok2, .tup (SqT.of upd_same) (.cons (t2.rp rx) (.cons (t2.rp ry) .nil))⟩
    · obtain ⟨us', ws', q', rs', p', ss'⟩ := get S' ρ' M' H' t' ok' g'
      refine ⟨us', ws', q', p', ?_⟩
      rw [rs'.length, ss'.length, zipD_len]
      omega) kx tk⟩
end
end Ab
set_option Elab.async false
set_option linter.all false
set_option maxRecDepth 100000
set_option maxHeartbeats 4000000
/-! Small words: tables, sorted names, decks, what else stays. -/
namespace Ab
open PySem PySem.Spec PyProof.Rows L2
theorem hu_of {k : Nat} {A : Around} (hr : Room k A) : A.units + 100 < cLine := by
  have := hr.un
  omega
theorem one_get {α : Type} {a x : α} {i : Nat} (h : [a][i]? = some x) : x = a ∧ i = 0 := by
  cases i with
  | zero => exact ⟨(Option.some.inj h).symm, rfl⟩
  | succ i => simp at h
theorem str_len_append (a b : Str) : (a ++ b).length = a.length + b.length := Str.length_append a b
theorem sum_le {α : Type} (g : α → Nat) (b : Nat) : ∀ l : List α, (∀ x ∈ l, g x ≤ b) → (l.map g).sum ≤ l.length * b
  | [], _ => by simp
  | x :: l, h => by
    have h1 := h x List.mem_cons_self
    have h2 := sum_le g b l fun y hy => h y (List.mem_cons_of_mem _ hy)
    rw [List.map_cons, List.sum_cons, List.length_cons, Nat.succ_mul]
    omega
theorem join_len (sep : Str) : ∀ l : List Str, (Str.join sep l).length ≤ (l.map (·.length)).sum + l.length * sep.length
  | [] => Nat.zero_le _
  | [x] => by
    show x.length ≤ _
    simp only [List.map_cons, List.map_nil, List.sum_cons, List.sum_nil]
    omega
  | x :: y :: r => by
    have ih := join_len sep (y :: r)
    show (x ++ sep ++ Str.join sep (y :: r)).length ≤ _
    rw [str_len_append, str_len_append, List.map_cons, List.sum_cons, List.length_cons, Nat.succ_mul]
    omega
theorem txt_join (sep : Str) (l : List Str) : Txt.join sep l = Str.join sep l := eq_of_beq (PyProof.Rows.join_plain_closes sep l)
theorem txt_join_len (sep : Str) (l : List Str) : (Txt.join sep l).length ≤ (l.map (·.length)).sum + l.length * sep.length := by
  rw [txt_join]
  exact join_len sep l
theorem getA_map {κ α : Type} [DecidableEq κ] {kf : α → κ} {vf : α → D} (inj : ∀ a b, kf a = kf b → a = b) : ∀ {l : List α} {n : α}, n ∈ l → getA (l.map fun a => (kf a, vf a)) (kf n) = some (vf n)
  | a :: l, n, h => by
    unfold getA
    by_cases e : kf a = kf n
    · have := inj _ _ e
      subst this
      simp
    · have hn : n ∈ l := by
        rcases List.mem_cons.mp h with q | q
        · exact absurd (by rw [q]) e
        · exact q
      have ih := getA_map (vf := vf) inj hn
      unfold getA at ih
      simp only [List.map_cons, List.find?_cons, e, decide_false]
      exact ih
theorem getA_none {κ α : Type} [DecidableEq κ] {kf : α → κ} {vf : α → D} {k : κ} : ∀ {l : List α}, (∀ a ∈ l, kf a ≠ k) → getA (l.map fun a => (kf a, vf a)) k = none
  | [], _ => rfl
  | a :: l, h => by
    have ih := getA_none (vf := vf) (l := l) (k := k) fun b hb => h b (List.mem_cons_of_mem _ hb)
    unfold getA at ih ⊢
    simp only [List.map_cons, List.find?_cons, h a List.mem_cons_self, decide_false]
    exact ih
theorem inr_inj (a b : Str) (h : (Sum.inr a : Key) = .inr b) : a = b := by injection h
theorem nd_of_asc {l : List Str} (h : l.Pairwise ltS) : l.Nodup := h.imp fun {a b} q e => by
  subst e
  exact List.lt_irrefl _ q
theorem not_mem_take {l : List Str} (h : l.Nodup) {j : Nat} {n : Str} (hj : l[j]? = some n) : n ∉ l.take j := by
  intro z
  obtain ⟨i, hi⟩ := List.mem_iff_getElem?.mp z
  rw [List.getElem?_take] at hi
  split at hi
  · rename_i lt
    have h1 := lt_of_some hi
    have h2 := lt_of_some hj
    rw [List.getElem?_eq_getElem h1] at hi
    rw [List.getElem?_eq_getElem h2] at hj
    exact List.pairwise_iff_getElem.mp h i j h1 h2 lt ((Option.some.inj hi).trans (Option.some.inj hj).symm)
  · cases hi
theorem lst_keep {S S' : List Cell} {x : D} {ds : List D} (h : LstD S x ds) (k : Keep S S') : LstD S' x ds := by
  cases x with
  | lst xs => exact h
  | ptr l => exact k.get h
  | _ => exact h
theorem r2_ip {g : Gd} {S : List Cell} {Φ : D → List Cell → Prop} {f : Int → Int → Int} {i j : Int} (h : Φ (.int (f i j)) S) : R2s g (ipI f) (.int i) (.int j) S Φ := fun ρ M H vx vy Q ok rx ry kv =>
  ⟨i, j, rp_int rx, rp_int ry, kv _ S _ ρ M H h .refl ok (.int _)⟩
theorem inr_nodup {ns : List Str} (h : ns.Nodup) : (ns.map (Sum.inr : Str → Key)).Nodup := List.pairwise_map.mpr (h.imp fun {a b} h z => h (inr_inj a b z))
theorem ifD {c : Bool} {A B : Prop} (h : (c = true ∧ A) ∨ (c = false ∧ B)) : if c = true then A else B := by
  rcases h with ⟨e, h⟩ | ⟨e, h⟩
  · rw [if_pos e]; exact h
  · rw [e, if_neg Bool.false_ne_true]; exact h
theorem getA_mem {κ α : Type} [DecidableEq κ] : ∀ {l : List (κ × α)} {k : κ} {v : α}, (l.map (fun q => q.1)).Nodup → (k, v) ∈ l → getA l k = some v
  | q :: l, k, v, hn, hm => by
    unfold getA
    simp only [List.map_cons, List.nodup_cons] at hn
    rcases List.mem_cons.mp hm with e | hm
    · subst e
      simp
    · have ne : q.1 ≠ k := fun z => hn.1 (List.mem_map.mpr ⟨(k, v), hm, z.symm⟩)
      have ih := getA_mem hn.2 hm
      unfold getA at ih
      simp only [List.find?_cons, ne, decide_false]
      exact ih
theorem putA_keys {κ α : Type} [DecidableEq κ] {l : List (κ × α)} {k : κ} {v : α} : (putA l k v).map (fun q => q.1) = if k ∈ l.map (fun q => q.1) then l.map (fun q => q.1) else l.map (fun q => q.1) ++ [k] := by
  unfold putA
  by_cases h : (l.any fun kv => decide (kv.1 = k)) = true
  · have h2 : k ∈ l.map (fun q => q.1) := by
      obtain ⟨q, hq, e⟩ := List.any_eq_true.mp h
      exact List.mem_map.mpr ⟨q, hq, of_decide_eq_true e⟩
    rw [if_pos h, if_pos h2, List.map_map]
    refine List.map_congr_left fun q _ => ?_
    show (if q.1 = k then (q.1, v) else q).1 = q.1
    split <;> rfl
  · have h2 : k ∉ l.map (fun q => q.1) := fun z => by
      obtain ⟨q, hq, e⟩ := List.mem_map.mp z
      exact h (List.any_eq_true.mpr ⟨q, hq, decide_eq_true e⟩)
    rw [if_neg h, if_neg h2, List.map_append]
    rfl
theorem enumD_inv {ds : List D} {i : Nat} {x : D} (h : (enumD ds)[i]? = some x) : ∃ d, ds[i]? = some d ∧ x = .tup [.int (i : Nat), d] := by
  have hi := lt_of_some h
  rw [enumD_len] at hi
  have hd : ds[i]? = some ds[i] := by simp [hi]
  have := enumD_get hd
  rw [h] at this
  exact ⟨_, hd, Option.some.inj this⟩
theorem ltS_trans {a b c : Str} (h1 : ltS a b) (h2 : ltS b c) : ltS a c := List.lt_trans h1 h2
theorem plain_strs : ∀ {ss : List Str}, (∀ s ∈ ss, PyData.strOk s = true) → plainDs (ss.map D.str) = true
  | [], _ => rfl
  | s :: ss, h => by
    show (PyData.strOk s && plainDs (ss.map D.str)) = true
    rw [h s List.mem_cons_self, plain_strs fun x hx => h x (List.mem_cons_of_mem _ hx)]
    rfl
theorem dep_strs : ∀ ss : List Str, depDs (ss.map D.str) = 0
  | [] => rfl
  | s :: ss => by
    show max 0 (depDs (ss.map D.str)) = 0
    rw [dep_strs ss]
    rfl
theorem okD_strs {ss : List Str} (h : ∀ s ∈ ss, PyData.strOk s = true) : okD (.lst (ss.map D.str)) = true := by
  have h1 : plainD (.lst (ss.map D.str)) = true := plain_strs h
  have h2 : depD (.lst (ss.map D.str)) = 1 := by
    show depDs (ss.map D.str) + 1 = 1
    rw [dep_strs]
  unfold okD
  rw [h1, h2]
  rfl
theorem take_split {α : Type} {l : List α} {i : Nat} {x : α} (h : l[i]? = some x) : l = l.take i ++ x :: l.drop (i + 1) := by
  obtain ⟨hi, e⟩ := List.getElem?_eq_some_iff.mp h
  rw [← e, List.getElem_cons_drop, List.take_append_drop]
theorem getA_in {κ α : Type} [DecidableEq κ] {l : List (κ × α)} {k : κ} {v : α} (h : getA l k = some v) : (k, v) ∈ l := by
  unfold getA at h
  obtain ⟨q, hq, e⟩ := Option.map_eq_some_iff.mp h
  have h1 := List.find?_some hq
  have h2 := List.mem_of_find?_eq_some hq
  obtain ⟨a, b⟩ := q
  have e1 : a = k := of_decide_eq_true h1
  have e2 : b = v := e
  rw [← e1, ← e2]
  exact h2
theorem getA_putA {κ α : Type} [DecidableEq κ] {l : List (κ × α)} {k j : κ} {v : α} : (getA (putA l k v) j).isSome = ((getA l j).isSome || decide (j = k)) := by
  have key : ∀ (m : List (κ × α)) (i : κ), (getA m i).isSome = decide (i ∈ m.map fun q => q.1) := by
    intro m i
    unfold getA
    rw [Option.isSome_map, Bool.eq_iff_iff, decide_eq_true_iff, List.find?_isSome]
    constructor
    · rintro ⟨x, hx, e⟩
      exact List.mem_map.mpr ⟨x, hx, of_decide_eq_true e⟩
    · intro h
      obtain ⟨x, hx, e⟩ := List.mem_map.mp h
      exact ⟨x, hx, decide_eq_true e⟩
  rw [key, key, putA_keys]
  by_cases h : k ∈ l.map fun q => q.1
  · rw [if_pos h]
    by_cases e : j = k
    · subst e; rw [decide_eq_true h, Bool.true_or]
    · rw [decide_eq_false e, Bool.or_false]
  · rw [if_neg h, ← Bool.decide_or]
    refine decide_eq_decide.mpr ?_
    rw [List.mem_append, List.mem_singleton]
theorem putA_mem {κ α : Type} [DecidableEq κ] {l : List (κ × α)} {k : κ} {v : α} {p : κ × α} (h : p ∈ putA l k v) : p ∈ l ∨ p = (k, v) := by
  unfold putA at h
  split at h
  · obtain ⟨q, hq, e⟩ := List.mem_map.mp h
    split at e
    · rename_i e2
      right
      rw [← e, ← e2]
    · left
      rw [← e]
      exact hq
  · rcases List.mem_append.mp h with z | z
    · exact .inl z
    · exact .inr (List.mem_singleton.mp z)
theorem putA_len {κ α : Type} [DecidableEq κ] (l : List (κ × α)) (k : κ) (v : α) : (putA l k v).length ≤ l.length + 1 := by
  unfold putA
  split
  · rw [List.length_map]; omega
  · rw [List.length_append]; exact Nat.le_refl _
structure But (a b : Nat) (S S' : List Cell) : Prop where
  len : S.length ≤ S'.length
  at_ : ∀ l, l < S.length → l ≠ a → l ≠ b → S'[l]? = S[l]?
theorem But.refl {a b : Nat} {S : List Cell} : But a b S S := ⟨Nat.le_refl _, fun _ _ _ _ => rfl⟩
theorem But.of_keep {a b : Nat} {S S' : List Cell} (k : Keep S S') : But a b S S' := ⟨k.len, fun l h _ _ => k.at_ l h⟩
theorem But.trans {a b : Nat} {S S1 S2 : List Cell} (h : But a b S S1) (k : But a b S1 S2) : But a b S S2 := ⟨Nat.le_trans h.len k.len, fun l hl h1 h2 => (k.at_ l (Nat.lt_of_lt_of_le hl h.len) h1 h2).trans (h.at_ l hl h1 h2)⟩
theorem But.set1 {a b : Nat} {S : List Cell} {c : Cell} : But a b S (S.set a c) := ⟨by rw [List.length_set]; exact Nat.le_refl _, fun l hl h1 _ => by rw [List.getElem?_set_ne (fun z => h1 z.symm)]⟩
theorem But.set2 {a b : Nat} {S : List Cell} {c : Cell} : But a b S (S.set b c) := ⟨by rw [List.length_set]; exact Nat.le_refl _, fun l hl _ h2 => by rw [List.getElem?_set_ne (fun z => h2 z.symm)]⟩
theorem But.get {a b l : Nat} {S S' : List Cell} {c : Cell} (h : But a b S S') (g : S[l]? = some c) (h1 : l ≠ a) (h2 : l ≠ b) : S'[l]? = some c := (h.at_ l (lt_of_get g) h1 h2).trans g
def DeckAt (S : List Cell) (l n : Nat) : Prop := ∃ a b c : Int, S[l]? = some (.lst [.int a, .int b, .int c]) ∧ 0 ≤ a ∧ 0 ≤ b ∧ b < 2147483579 ∧ 0 ≤ c ∧ c ≤ n
theorem DeckAt.keep {S S' : List Cell} {l n : Nat} (h : DeckAt S l n) (k : Keep S S') : DeckAt S' l n := by
  obtain ⟨a, b, c, g, r⟩ := h
  exact ⟨a, b, c, k.get g, r⟩
theorem nat_of {i : Int} {m : Nat} (h0 : 0 ≤ i) (h : i < m) : ∃ r : Nat, r < m ∧ i = (r : Int) := ⟨i.toNat, by omega, by omega⟩
theorem lst_seq {S : List Cell} {x : D} {xs : List D} (h : LstD S x xs) : SeqD S x xs := by
  cases x <;> first | exact h | cases h
theorem cut_from {xs : List D} (k : Nat) : Ab.cutD xs (some ((k : Nat) : Int)) none = xs.drop k := by
  unfold Ab.cutD
  rw [HT.sIx_nat, HT.sIx_none]
  by_cases h : k ≤ xs.length
  · rw [Nat.min_eq_left h, List.take_of_length_le (by rw [List.length_drop]; omega)]
  · rw [Nat.min_eq_right (by omega), List.drop_length, List.drop_eq_nil_of_le (by omega), List.take_nil]
theorem cut_to {xs : List D} (k : Nat) : Ab.cutD xs none (some ((k : Nat) : Int)) = xs.take k := by
  unfold Ab.cutD
  rw [HT.sIx_none, HT.sIx_nat, List.drop_zero, Nat.sub_zero]
  by_cases h : k ≤ xs.length
  · rw [Nat.min_eq_left h]
  · rw [Nat.min_eq_right (by omega), List.take_length, List.take_of_length_le (by omega)]
theorem DeckAt.mono {S : List Cell} {l n m : Nat} (h : DeckAt S l n) (e : n ≤ m) : DeckAt S l m := by
  obtain ⟨a, b, c, g, h1, h2, h3, h4, h5⟩ := h
  exact ⟨a, b, c, g, h1, h2, h3, h4, by omega⟩
theorem DeckAt.but {S S' : List Cell} {l n a b : Nat} (h : DeckAt S l n) (k : But a b S S') (h1 : l ≠ a) (h2 : l ≠ b) : DeckAt S' l n := by
  obtain ⟨p, q, r, g, rest⟩ := h
  exact ⟨p, q, r, k.get g h1 h2, rest⟩
theorem DeckAt.lt {S : List Cell} {l n : Nat} (h : DeckAt S l n) : l < S.length := by
  obtain ⟨_, _, _, g, _⟩ := h
  exact lt_of_get g
theorem eqv_same {d : D} (h : okD d = true) : PyData.eqv (toPy d) (toPy d) = true := PySem.SeqAt.eqv_refl _ (canLay_plain d (okD_plain h))
theorem eqv_nil (xs : List D) : PyData.eqv (toPy (.lst xs)) (toPy (.lst [])) = decide (xs = []) := by
  cases xs <;> rfl
theorem fnM_of {P : Program} {w : World} {K : PySem.W.Frag} {mg : Str → Option Value} {base : Heap} {x qual : Str} {params : Arguments} {body : List Stmt} {scope : Scope} {f : Addr} {fd : FuncData} {C : Addr} (N : List Str) {ps : List Str} {k : Nat} (F : FunD K x qual params body scope [] [] f fd) (hm : Meth K C x f) (c : Ct)
    (hb : ∀ (kV doc pm : Value) (an : Option Addr) (cdv ct : Value) (us : List Value), us.length = ps.length → bindArgs (PySem.W.fnOf x qual params body scope .none kV doc pm an cdv ct) ⟨us, []⟩ = pure (ps.zip us))
    (Sc : FnScope N ps scope)
    (len : ∀ ds S Φ Ψ, c ds S Φ Ψ → ds.length = ps.length)
    (hbody : ∀ (cdv : Value) (A : Around) (outer : List Env) (s : Shared) (H : Hp) (E : XK), Room k (A.deeper (envOfC qual scope s.heap.objs.size f cdv)) → ∀ ds S Φ Ψ, c ds S Φ Ψ →
      WB (cxOf (L2.CX P w) P w K mg base N qual scope f cdv A outer s H E) body (ds.map some ++ List.replicate (N.length - ps.length) none) S ⟨fun _ S' => Φ .non S', Φ, fun x _ S' => Ψ x S', fun _ _ => False, fun _ _ => False⟩) :
    HasM P w K mg base (k + 1) C x ps c := ⟨f, fd, fnS_of F Sc c len hbody, hm, F.bindsN hb⟩
def HasC (P : Program) (w : World) (K : PySem.W.Frag) (mg : Str → Option Value) (base : Heap) (k : Nat) (x : Str) (C : Addr) (ps : List Str) (c : Ct) : Prop :=
  ∃ f fd, FnOk P w K mg base (L2.CX P w) k f fd ps (spOf ⟨P, w, K⟩ c) ∧ mg x = some (.ref C) ∧ Mk K C f ∧ Binds K fd ps []
theorem fnC_of {P : Program} {w : World} {K : PySem.W.Frag} {mg : Str → Option Value} {base : Heap} {x cx qual : Str} {params : Arguments} {body : List Stmt} {scope : Scope} {f : Addr} {fd : FuncData} {C : Addr} (N : List Str) {ps : List Str} {k : Nat} (F : FunD K x qual params body scope [] [] f fd) (hm : mg cx = some (.ref C)) (hk : Mk K C f) (c : Ct)
    (hb : ∀ (kV doc pm : Value) (an : Option Addr) (cdv ct : Value) (us : List Value), us.length = ps.length → bindArgs (PySem.W.fnOf x qual params body scope .none kV doc pm an cdv ct) ⟨us, []⟩ = pure (ps.zip us))
    (Sc : FnScope N ps scope)
    (len : ∀ ds S Φ Ψ, c ds S Φ Ψ → ds.length = ps.length)
    (hbody : ∀ (cdv : Value) (A : Around) (outer : List Env) (s : Shared) (H : Hp) (E : XK), Room k (A.deeper (envOfC qual scope s.heap.objs.size f cdv)) → ∀ ds S Φ Ψ, c ds S Φ Ψ →
      WB (cxOf (L2.CX P w) P w K mg base N qual scope f cdv A outer s H E) body (ds.map some ++ List.replicate (N.length - ps.length) none) S ⟨fun _ S' => Φ .non S', Φ, fun x _ S' => Ψ x S', fun _ _ => False, fun _ _ => False⟩) :
    HasC P w K mg base (k + 1) cx C ps c := ⟨f, fd, fnS_of F Sc c len hbody, hm, hk, F.bindsN hb⟩
theorem we_makeH {X : Cx} {Γ : List (Option D)} {S : List Cell} {Φ : D → List Cell → Prop} {Ξ : XP} {k : Nat} {x : Str} {C : Addr} {ps : List Str} {c : Ct} {p pos : Pos} (h : HasC X.prog X.w X.K X.mg X.base k x C ps c) (hr : Room (k + 1) X.A) (hc : c [.ptr S.length] (S ++ [.ins C []]) (fun d S' => d = .non ∧ Φ (.ptr S.length) S') (fun _ _ => False))
    (hg : Gl X x := by rfl) (hdb : (x == ("__debug__" : Str)) = false := by decide) : WE X (.Call (.Name x p) [] [] pos) Γ S Φ Ξ := by
  obtain ⟨f, fd, F, hm, hk, hb⟩ := h
  exact we_make0 hk F hr hm hb hc hg hdb
theorem ww_orF {X : Cx} {Γ : List (Option D)} {S : List Cell} {Ξ : XP} {a b : Expr} {pos : Pos} {rest : List Expr} {ΦB : Bool → List Cell → Prop} (h : WT X a Γ S (fun c S1 => c = false ∧ WW X (.BoolOp .Or (b :: rest) pos) Γ S1 ΦB Ξ) Ξ) : WW X (.BoolOp .Or (a :: b :: rest) pos) Γ S ΦB Ξ :=
  ww_or (h.imp fun c S1 ⟨e, q⟩ => by subst e; exact q)
/-- or of tests, all false -/
theorem ww_or1F {X : Cx} {Γ : List (Option D)} {S : List Cell} {Ξ : XP} {a : Expr} {pos : Pos} {ΦB : Bool → List Cell → Prop} (h : WT X a Γ S (fun c S1 => c = false ∧ ΦB false S1) Ξ) : WW X (.BoolOp .Or [a] pos) Γ S ΦB Ξ := ww_or1 (h.imp fun c S1 ⟨e, q⟩ => by subst e; exact q)
theorem ww_andT {X : Cx} {Γ : List (Option D)} {S : List Cell} {Ξ : XP} {a b : Expr} {pos : Pos} {rest : List Expr} {ΦB : Bool → List Cell → Prop} (h : WT X a Γ S (fun c S1 => c = true ∧ WW X (.BoolOp .And (b :: rest) pos) Γ S1 ΦB Ξ) Ξ) : WW X (.BoolOp .And (a :: b :: rest) pos) Γ S ΦB Ξ :=
  ww_and (h.imp fun c S1 ⟨e, q⟩ => by subst e; exact q)
/-- and of values, the first one true -/
theorem we_andV {X : Cx} {Γ : List (Option D)} {S : List Cell} {Φ : D → List Cell → Prop} {Ξ : XP} {a b : Expr} {pos : Pos} {rest : List Expr} (h : WE X a Γ S (fun d S1 => d = .bl true ∧ WE X (.BoolOp .And (b :: rest) pos) Γ S1 Φ Ξ) Ξ) : WE X (.BoolOp .And (a :: b :: rest) pos) Γ S Φ Ξ :=
  we_and (h.imp fun c S1 ⟨e, q⟩ => ⟨true, e, q⟩)
theorem wt_notF {X : Cx} {Γ : List (Option D)} {S : List Cell} {Ξ : XP} {a : Expr} {pos : Pos} {P : List Cell → Prop} (h : WT X a Γ S (fun c S1 => c = true ∧ P S1) Ξ) : WT X (.UnaryOp .Not a pos) Γ S (fun c S1 => c = false ∧ P S1) Ξ :=
  wt_not (h.imp fun c S1 ⟨e, q⟩ => by subst e; exact ⟨rfl, q⟩)
/-! ### a call of a local name -/
section
variable {X : Cx} {Γ : List (Option D)} {S : List Cell} {Φ : D → List Cell → Prop} {Ξ : XP} {e : Expr} {es : List Expr} {x : Str} {p pos : Pos} {k : Nat} {ps : List Str} {c : Ct}
/-- the def at f keeps the promise c -/
def HasA (P : Program) (w : World) (K : PySem.W.Frag) (mg : Str → Option Value) (base : Heap) (k : Nat) (f : Addr) (ps : List Str) (c : Ct) : Prop :=
  ∃ fd, FnOk P w K mg base (L2.CX P w) k f fd ps (spOf ⟨P, w, K⟩ c) ∧ PySem.W.keepIn K (.ref f) = true ∧ Binds K fd ps []
theorem Has.at_ {P : Program} {w : World} {K : PySem.W.Frag} {mg : Str → Option Value} {base : Heap} (h : Has P w K mg base k x ps c) : ∃ f, mg x = some (.ref f) ∧ HasA P w K mg base k f ps c := by
  obtain ⟨f, fd, F, hm, hk, hb⟩ := h
  exact ⟨f, hm, fd, F, hk, hb⟩
theorem passesAt_of {P : Program} {w : World} {X : Cx} {W : WX} {σ : L2.St} (h : Takes X W) (hP : X.prog = P) (hw : X.w = w) : PassesAt (L2.CX P w) X σ (L2.WE W σ) := by
  subst hP hw
  exact passAt h σ
theorem we_callV (i : Nat) {f : Addr} (F : HasA X.prog X.w X.K X.mg X.base k f ps c) (hr : Room k X.A) (hΓ : Γ[i]? = some (some (.ref f))) (hw : WA X (e :: es) Γ S (fun ds S1 => c ds S1 Φ (fun x S' => Ξ x Γ S')) Ξ)
    (hN : X.N[i]? = some x := by rfl) (hv : Vis X.env.scope x := by first | exact Or.inl rfl | exact Or.inr (Or.inl rfl) | exact Or.inr (Or.inr rfl)) (hdb : (x == ("__debug__" : Str)) = false := by decide) (hcd : (x == ("__classdict__" : Str)) = false := by decide)
    (he : starEach (e :: es) X.env = (false, eval e X.env) :: starEach es X.env := by rfl) (hpl : (backTo pos (starEach es X.env)).any (·.1) = false := by rfl) : WE X (.Call (.Name x p) (e :: es) [] pos) Γ S Φ Ξ := fun σ ρ M H Q W ok sl kv kx tk pins s I => by
  obtain ⟨fd, F, hk, hb⟩ := F
  obtain ⟨v, e1, r1⟩ := sl.at_ i _ hΓ
  cases r1
  refine wpAny_Call_Name_kw (thn ((pe_var (pos := p) hN hv hdb hcd).run pins s σ H (fun v H1 => v = .ref f ∧ H1 = H) I ⟨.ref f, e1, rfl, rfl⟩) fun u s1 ⟨v, H1, I1, r1, q1⟩ => ?_)
  obtain ⟨rfl, rfl⟩ := q1
  cases r1
  refine PySem.W.callWith_K (h₀ := X.base) I.ok.mod.kin hk (thn (hw σ ρ M H1 (fun vs H2 => spOf (gd X) c vs H2 Q (L2.WE W σ)) W ok sl (fun ds S2 vs ρ2 M2 H2 p t2 ok2 r2 => sp_go ok2 (t2.slots sl) r2 p (kv.to t2) (kx.to t2)) kx tk pos pins s1 I1) fun us s2 ⟨vs, H2, I2, r, q⟩ => ⟨I2.kIn, ?_⟩) he hpl
  exact run_methS F hr hb (passesAt_of tk rfl rfl) I2 r q
/-! ### x or y, x a list -/
theorem we_orL {a b : Expr} {rest : List Expr} (h : WE X a Γ S (fun d S1 => ∃ xs, LstD S1 d xs ∧ ((xs ≠ [] ∧ Φ d S1) ∨ (xs = [] ∧ WE X (.BoolOp .Or (b :: rest) pos) Γ S1 Φ Ξ))) Ξ) : WE X (.BoolOp .Or (a :: b :: rest) pos) Γ S Φ Ξ := fun σ ρ M H Q W ok sl kv kx tk =>
  PE.s (pe_orT (pe_s a) (pe_s (.BoolOp .Or (b :: rest) pos))) (h σ ρ M H _ W ok sl (fun d S1 v ρ1 M1 H1 ⟨xs, hx, q⟩ t1 ok1 r1 => by
    obtain ⟨p, vs, e1, q1, rs⟩ := hx.at ok1 r1
    subst e1
    refine ⟨!vs.isEmpty, .inl ⟨vs, q1, rfl⟩, ?_⟩
    have hl := rs.length
    rcases q with ⟨hne, q⟩ | ⟨he, q⟩
    · have : (!vs.isEmpty) = true := by
        cases vs with
        | nil => cases xs with
          | nil => exact absurd rfl hne
          | cons _ _ => cases hl
        | cons _ _ => rfl
      rw [if_pos this]
      exact kv d S1 _ ρ1 M1 H1 q t1 ok1 r1
    · subst he
      have : vs = [] := List.eq_nil_of_length_eq_zero hl
      subst this
      exact q σ ρ1 M1 H1 Q W ok1 (t1.slots sl) (kv.to t1) (kx.to t1) tk) kx tk)
end
/-! ### lists times a number; the least, the greatest of two; slices of texts; lists unpacked -/
section
variable {X : Cx} {g : Gd} {Γ : List (Option D)} {S : List Cell} {Φ : D → List Cell → Prop} {Ξ : XP} {a b : Expr} {p pos : Pos}
theorem we_min2 (hc : X.calm = true) (hg : Gl X "min") (hm : X.mg "min" = none) (h : WE X a Γ S (fun x S1 => WE X b Γ S1 (fun y S2 => ∃ i j : Int, x = .int i ∧ y = .int j ∧ Φ (.int (if j < i then j else i)) S2) Ξ) Ξ)
    (he : starEach [a, b] X.env = (false, eval a X.env) :: starEach [b] X.env := by rfl) (he2 : starEach [b] X.env = (false, eval b X.env) :: starEach [] X.env := by rfl) (hpl : (backTo pos (starEach [b] X.env)).any (·.1) = false := by rfl) : WE X (.Call (.Name "min" p) [a, b] [] pos) Γ S Φ Ξ :=
  we_callB (call_min2 hc) hg hm boot_min (wa_cons (h.imp fun x S1 q => wa_cons (q.imp fun y S2 ⟨i, j, e1, e2, q9⟩ => wa_nil fun ρ M H vs Q ok rs kv => by
    subst e1 e2
    obtain ⟨v, v2, rfl, r1, r2⟩ := rps2 rs
    exact ⟨i, j, by rw [rp_int r1, rp_int r2], kv _ S2 _ ρ M H q9 .refl ok (.int _)⟩) he2) he) (he := he) (hpl := hpl)
theorem we_max2 (hc : X.calm = true) (hg : Gl X "max") (hm : X.mg "max" = none) (h : WE X a Γ S (fun x S1 => WE X b Γ S1 (fun y S2 => ∃ i j : Int, x = .int i ∧ y = .int j ∧ Φ (.int (if j > i then j else i)) S2) Ξ) Ξ)
    (he : starEach [a, b] X.env = (false, eval a X.env) :: starEach [b] X.env := by rfl) (he2 : starEach [b] X.env = (false, eval b X.env) :: starEach [] X.env := by rfl) (hpl : (backTo pos (starEach [b] X.env)).any (·.1) = false := by rfl) : WE X (.Call (.Name "max" p) [a, b] [] pos) Γ S Φ Ξ :=
  we_callB (call_max2 hc) hg hm boot_max (wa_cons (h.imp fun x S1 q => wa_cons (q.imp fun y S2 ⟨i, j, e1, e2, q9⟩ => wa_nil fun ρ M H vs Q ok rs kv => by
    subst e1 e2
    obtain ⟨v, v2, rfl, r1, r2⟩ := rps2 rs
    exact ⟨i, j, by rw [rp_int r1, rp_int r2], kv _ S2 _ ρ M H q9 .refl ok (.int _)⟩) he2) he) (he := he) (hpl := hpl)
theorem rs_str {z : Str} {lo hi : Option Int} (hz : z.length ≤ 1000000) (h : Φ (.str (L2.cutS z lo hi)) S) : Rsl g rSlS (.str z) lo hi S Φ := fun ρ M H vx Q ok r kv => ⟨z, rp_str r, Nat.le_trans hz (by decide), kv _ S _ ρ M H h .refl ok (.str _)⟩
theorem rps_reverse {ρ : List Addr} {M : Hp} : ∀ {vs : List V} {ds : List D}, Rps g M ρ vs ds → Rps g M ρ vs.reverse ds.reverse
  | _, _, .nil => .nil
  | _, _, .cons r t => by
    rw [List.reverse_cons, List.reverse_cons]
    exact (rps_reverse t).append (.cons r .nil)
/-- xs[::-1], for good -/
theorem we_revL {k : Nat} {p1 p2 p3 : Pos} (h : WE X a Γ S (fun d S1 => ∃ xs, LstD S1 d xs ∧ Φ (.lst xs.reverse) S1) Ξ) : WE X (.Subscript a (.Slice none none (some (.UnaryOp .USub (.Constant (.int 1) k p1) p2)) p3) pos) Γ S Φ Ξ := fun σ ρ M H Q W ok sl kv kx tk =>
  PE.s (L2.pe_revL (pe_s a)) (h σ ρ M H _ W ok sl (fun d S1 v ρ1 M1 H1 ⟨xs, hx, q⟩ t1 ok1 r1 => by
    obtain ⟨p, vs, e1, q1, rs⟩ := hx.at ok1 r1
    refine ⟨p, vs, e1, q1, fun l hl => ?_⟩
    obtain ⟨ok2, t2⟩ := ok1.keep (o := .lst vs.reverse) hl
    exact kv _ S1 _ ρ1 _ _ q (t1.trans t2) ok2 (.lst (SqL.of upd_same) (t2.rps (rps_reverse rs)))) kx tk)
/-- a, b = xs, xs a list -/
theorem wg_lst {es : List Expr} {k n : Nat} {d : D} {ds : List D} {ΦG : List (Option D) → List Cell → Prop} (hc : X.calm = true) (hx : LstD S d ds) (h : WGs X es ds Γ S ΦG Ξ) (hl : ds.length = n := by rfl) (hn : (assignEach es X.env).length = n := by rfl) (hst : (assignEach es X.env).findIdx? (·.1) = none := by rfl) : WG X (.Tuple es k pos) d Γ S ΦG Ξ := fun v σ ρ M H Q W ok sl r kn kx tk =>
  PG.s (pg_lst hc (pgs_s es) (n := n) hn hst) (by
    obtain ⟨p, vs, e1, q1, rs⟩ := hx.at ok r
    exact ⟨p, vs, e1, q1, by rw [rs.length]; exact hl, fun pins s us I rv => h vs σ ρ M H Q W ok sl rs kn kx tk pins s us I rv⟩)
end
end Ab
set_option Elab.async false
set_option linter.all false
set_option maxRecDepth 100000
set_option maxHeartbeats 4000000
/-! Chains as tests. -/
namespace Ab
open PySem PySem.Spec PyProof.Rows L2
section
variable {X : Cx} {Γ : List (Option D)} {S : List Cell} {Ξ : XP} {pos : Pos} {a b c : Expr}
theorem wt_chain {op op' : CmpOp} {r r' : R2} {ΦB : Bool → List Cell → Prop} (ho : OpR X (compareOp op) r) (ho' : OpR X (compareOp op') r') (h : WE X a Γ S (fun x S1 => WE X b Γ S1 (fun y S2 => R2s (gd X) r x y S2 (fun z S3 => ∃ k, z = .bl k ∧ if k = true then WE X c Γ S3 (fun w S4 => R2s (gd X) r' y w S4 (asB ΦB)) Ξ else ΦB false S3)) Ξ) Ξ)
    (hm : lastMarks [op, op'] [b, c] = false := by with_unfolding_all rfl) : WT X (.Compare a [op, op'] [b, c] pos) Γ S ΦB Ξ :=
  fun σ ρ M H Q W ok sl kb kx tk => PT.s (pt_chain ho ho' (pe_s a) (pe_s b) (pe_s c) hm) (h σ ρ M H _ W ok sl (fun x S1 vx ρ1 M1 H1 h1 t1 ok1 r1 => h1 σ ρ1 M1 H1 _ W ok1 (t1.slots sl) (fun y S2 vy ρ2 M2 H2 h2 t2 ok2 r2 => h2 ρ2 M2 H2 vx vy _ ok2 (t2.rp r1) r2 (fun z S3 vz ρ3 M3 H3 ⟨k, ez, h3⟩ t3 ok3 r3 => by
    subst ez
    refine ⟨k, rp_bl r3, ?_⟩
    cases k with
    | false =>
      rw [if_neg Bool.false_ne_true] at h3 ⊢
      exact kv_b kb _ S3 _ ρ3 M3 H3 ⟨false, rfl, h3⟩ ((t1.trans t2).trans t3) ok3 (.bl false)
    | true =>
      rw [if_pos rfl] at h3 ⊢
      exact h3 σ ρ3 M3 H3 _ W ok3 (((t1.trans t2).trans t3).slots sl) (fun w S4 vw ρ4 M4 H4 h4 t4 ok4 r4 => h4 ρ4 M4 H4 vy vw _ ok4 ((t3.trans t4).rp r2) r4 ((kv_b kb).to (((t1.trans t2).trans t3).trans t4))) (kx.to ((t1.trans t2).trans t3)) tk)) (kx.to t1) tk) kx tk)
theorem wt_chainT {op op' : CmpOp} {r r' : R2} {ΦB : Bool → List Cell → Prop} (ho : OpR X (compareOp op) r) (ho' : OpR X (compareOp op') r') (h : WE X a Γ S (fun x S1 => WE X b Γ S1 (fun y S2 => R2s (gd X) r x y S2 (fun z S3 => z = .bl true ∧ WE X c Γ S3 (fun w S4 => R2s (gd X) r' y w S4 (asB ΦB)) Ξ)) Ξ) Ξ)
    (hm : lastMarks [op, op'] [b, c] = false := by with_unfolding_all rfl) : WT X (.Compare a [op, op'] [b, c] pos) Γ S ΦB Ξ :=
  wt_chain ho ho' (h.imp fun x S1 q => q.imp fun y S2 q ρ M H vx vy Q ok rx ry kv => q ρ M H vx vy Q ok rx ry fun d S' v ρ' M' H' ⟨e, q⟩ => kv d S' v ρ' M' H' ⟨true, e, by rw [if_pos rfl]; exact q⟩) hm
end
end Ab
set_option Elab.async false
set_option linter.all false
set_option maxRecDepth 100000
set_option maxHeartbeats 4000000
/-! A table of the module, read. -/
namespace Ab
open PySem PySem.Spec PyProof.Rows L2
/-- the module's name x is a dict of texts to numbers -/
def KTabI (K : PySem.W.Frag) (w : World) (mg : Str → Option Value) (x : Str) (kvs : List (Str × Int)) : Prop :=
  ∃ a es n, mg x = some (.ref a) ∧ KDict K w a es n ∧ ∀ p ∈ kvs, ∃ t, PySem.W.nsIn K a p.1 = some (some (.int p.2 t))
section
variable {X : Cx} {Γ : List (Option D)} {S : List Cell} {Φ : D → List Cell → Prop} {Ξ : XP} {e f : Expr} {x : Str} {p apos cpos : Pos} {kvs : List (Str × Int)}
theorem we_kgetI (hk : KTabI X.K X.w X.mg x kvs) (h : WE X e Γ S (fun y S1 => ∃ z : Str, y = .str z ∧ WE X f Γ S1 (fun _ S2 => ∃ i, (z, i) ∈ kvs ∧ Φ (.int i) S2) Ξ) Ξ) (m : M2 X (.Name x p) "get" apos e f cpos := by exact ⟨rfl, rfl, rfl, rfl⟩) (hg : Gl X x := by rfl) (hdb : (x == ("__debug__" : Str)) = false := by decide) : WE X (.Call (.Attribute (.Name x p) "get" apos) [e, f] [] cpos) Γ S Φ Ξ := fun σ ρ M H Q W ok sl kv kx tk pins s I => by
  obtain ⟨a, es, n, hm, kd, hv⟩ := hk
  refine wpAny_Call_method m.base m.few m.line PySem.F.plainAttrs_dict PySem.F.slot_dict_get PySem.F.type_dict_get (thn ((pe_glob (v := .ref a) hg hm rfl hdb).run pins s σ H (fun v H1 => v = .ref a ∧ H1 = H) I ⟨rfl, rfl⟩) fun u s1 ⟨v, H1, I1, rx, q1⟩ => ?_)
  obtain ⟨rfl, rfl⟩ := q1
  obtain rfl : u = Value.ref a := rx
  refine ⟨kd_type kd I1, fun b eb => ⟨_, I1.kIn _ _ (by cases eb; exact kd.at_), rfl⟩, ?_⟩
  rw [m.trees]
  refine Calls.callWith_builtin rfl (Calls.evalArgs_plain (Calls.spliced_cons (thn (h σ ρ M H1 (fun y H2 => ∃ z : Str, y = .str z ∧ sE X f σ H2 fun _ H3 => ∃ i, (z, i) ∈ kvs ∧ Q (.int i) H3) W ok sl (fun y S2 vy ρ2 M2 H2 ⟨z, ez, q⟩ t2 ok2 r2 => ⟨z, by subst ez; exact rp_str r2, fun pins' s' I' => q σ ρ2 M2 H2 _ W ok2 (t2.slots sl) (fun d S3 v3 ρ3 M3 H3 ⟨i, hi, q3⟩ t3 ok3 r3 => ⟨i, hi, kv _ S3 _ ρ3 M3 H3 q3 (t2.trans t3) ok3 (.int i)⟩) (kx.to t2) tk pins' s' I'⟩) kx tk pins s1 I1) fun iv s2 ⟨y, H2, I2, ry, z, ez, q2⟩ =>
    Calls.spliced_cons (thn (q2 pins s2 I2) fun fv s3 ⟨z3, H3, I3, rz, i, hi, q3⟩ => Calls.spliced_nil ?_))))
  subst ez
  obtain ⟨t, rfl⟩ := ry
  obtain ⟨t2, hn⟩ := hv _ hi
  have hmo := PySem.W.mapOf_K (prog := X.prog) I3.kIn kd.at_ kd.lit
  refine call_meetsIn PySem.F.slot_dict_get hmo.typeIs PySem.F.entry_dict_get (PySem.F.args_dict_get_3 _ _ _) (meets_dict_get_default (strKind X.prog X.w) a (PySem.strKind_is X.prog X.w z t) kd.low fv) ⟨_, hmo, ?_⟩
  rw [PySem.W.find_K kd.at_ hn]
  exact ⟨.int i, H3, I3.tok _, ⟨_, rfl⟩, q3⟩
end
end Ab
set_option Elab.async false
set_option linter.all false
set_option maxRecDepth 100000
set_option maxHeartbeats 4000000
/-! Comprehensions of two clauses that only map. -/
namespace Ab
open PySem PySem.Spec PyProof.Rows L2
section
variable {X : Cx} {Γ : List (Option D)} {scope : Scope} {vs vs1 : List Nat} {g g1 : TG} {elt tg iter tg1 iter1 : Expr} {S S1 : List Cell} {Ξ : XP} {ds : List D} {G : List Cell → Prop}
theorem WI.imp {Φ Φ' : List D → (List Cell → Prop) → List Cell → Prop} (h : WI X tg iter Γ S Φ Ξ) (k : ∀ ds G S', Φ ds G S' → Φ' ds G S') : WI X tg iter Γ S Φ' Ξ := by
  obtain ⟨wi, hwi, hr⟩ := h
  exact ⟨wi, hwi, fun σ ρ M H R W ok sl q kx tk => hr σ ρ M H R W ok sl (fun J ds G S' ρ' M' H' p => q J ds G S' ρ' M' H' (k _ _ _ p)) kx tk⟩
theorem flat_len {α β : Type} (inner : α → List β) (b : Nat) : ∀ l : List α, (∀ x ∈ l, (inner x).length ≤ b) → (l.flatMap inner).length ≤ l.length * b
  | [], _ => by simp
  | x :: l, h => by
    have h1 := h x List.mem_cons_self
    have h2 := flat_len inner b l fun y hy => h y (List.mem_cons_of_mem _ hy)
    rw [List.flatMap_cons, List.length_append, List.length_cons, Nat.succ_mul]
    omega
theorem lc2_flatE {α β : Type} (enc : α → D) (xs : List α) (hds : ds = xs.map enc) (inner : α → List β) (enc2 : β → D) (f : β → D) {Φ : List D → List Cell → Prop} (hz : xs.length ≤ 900) (hb : ∀ x ∈ xs, (inner x).length ≤ 900) (hG : ∀ S', Keep S1 S' → G S')
    (h : ∀ (i : Nat) (x : α) (S' : List Cell), xs[i]? = some x → Keep S1 S' → ∃ Γ2, TgC (gd X) vs g (enc x) (wipeD Γ vs) Γ2 ∧ WIb X scope tg1 iter1 Γ2 S' fun ds1 G1 S3 => Keep S1 S3 ∧ ds1 = (inner x).map enc2 ∧ (∀ S4, Keep S3 S4 → G1 S4) ∧
      ∀ (j : Nat) (y : β) (S4 : List Cell), (inner x)[j]? = some y → Keep S3 S4 → ∃ Γ3, TgC (gd X) vs1 g1 (enc2 y) (wipeD Γ2 vs1) Γ3 ∧ WEb X scope elt Γ3 S4 fun z S5 => z = f y ∧ Keep S3 S5)
    (fin : ∀ S', Keep S1 S' → Φ ((xs.flatMap inner).map f) S') : Lc2 X scope vs vs1 g [] tg1 iter1 g1 [] elt Γ ds G S1 Φ := by
  subst hds
  refine ⟨fun i acc S' => acc = ((xs.take i).flatMap inner).map f ∧ Keep S1 S', by rw [List.length_map]; omega, ⟨rfl, .refl⟩, fun i acc S' _ q => hG _ q.2, ?_, ?_⟩
  · rintro i y acc S' hy ⟨rfl, kp⟩
    rw [List.getElem?_map] at hy
    obtain ⟨x, hx, rfl⟩ := Option.map_eq_some_iff.mp hy
    obtain ⟨Γ2, h1, h2⟩ := h i x S' hx kp
    refine ⟨Γ2, h1, ?_⟩
    show WIb X scope tg1 iter1 Γ2 S' _
    intro s H0 C cl fp
    refine (h2 s H0 C cl fp).imp fun ds1 G1 S3 ⟨k3, e3, g3, h3⟩ => ?_
    subst e3
    have hl0 := flat_len inner 900 (xs.take i) fun z hz' => hb z (List.mem_of_mem_take hz')
    have hl1 : (xs.take i).length ≤ 900 := by rw [List.length_take]; omega
    have hl2 : (xs.take i).length * 900 ≤ 900 * 900 := Nat.mul_le_mul_right _ hl1
    have hl3 := hb x (List.mem_of_getElem? hx)
    refine ⟨fun j acc S' => acc = ((xs.take i).flatMap inner).map f ++ ((inner x).take j).map f ∧ Keep S3 S', by rw [List.length_map]; omega, ⟨by simp, .refl⟩, fun j acc S' hj q => ⟨g3 _ q.2, ?_⟩, ?_, ?_⟩
    · rw [q.1, List.length_append, List.length_map, List.length_map, List.length_take]
      omega
    · rintro j z acc S4 hz' ⟨rfl, k4⟩
      rw [List.getElem?_map] at hz'
      obtain ⟨y, hy', rfl⟩ := Option.map_eq_some_iff.mp hz'
      obtain ⟨Γ3, h5, h6⟩ := h3 j y S4 hy' k4
      refine ⟨Γ3, h5, ?_⟩
      show WEb X scope elt Γ3 S4 _
      intro s H0 C cl fp
      refine (h6 s H0 C cl fp).imp fun w S5 ⟨ew, k5⟩ => ⟨?_, k5⟩
      rw [take_snoc hy', List.map_append, ew, List.append_assoc]
      rfl
    · rintro acc S4 ⟨rfl, k4⟩
      refine ⟨?_, k3.trans k4⟩
      rw [List.length_map, List.take_length, take_snoc hx, List.flatMap_append, List.map_append]
      simp
  · rintro acc S' ⟨rfl, kp⟩
    rw [List.length_map, List.take_length]
    exact fin S' kp
end
end Ab
set_option Elab.async false
set_option linter.all false
set_option maxRecDepth 100000
set_option maxHeartbeats 4000000
/-! enumerate of a zip of two lists. -/
namespace Ab
open PySem PySem.Spec PyProof.Rows L2
/-- a zip: v what it gave out last (or none), q whether it knows that this is kept -/
abbrev ZipAt (h : Heap) (z tI tO : Addr) (v : Value) (q : Bool) : Prop := h.get? z = some { cls := .type "zip", dict := none, data := .fields #[v, .bool q, .bool false, .ref tI, .ref tO], slots := #[] }
section
variable {prog : Program} {w : World} {A : Around} {E : Value → Shared → Prop} {s : Shared}
theorem dead_at {a : Addr} {Q : Option Obj → Shared → Prop} (n : s.heap.get? a = none) (h : Q none s) : wpAny (model prog w) A (loadIfAlive a) Q E s := by
  have e : Q (s.heap.get? a) s := by rw [n]; exact h
  exact fun _ _ _ => e
/-- what it gave out last is no more -/
def GoneV (h : Heap) (v : Value) : Prop := v = .none ∨ ∃ T : Addr, v = rawInt T ∧ h.get? T = none
theorem own_gone {z tI tO : Addr} {v : Value} {q : Bool} {Q : Bool → Shared → Prop} (hz : ZipAt s.heap z tI tO v q) (g : GoneV s.heap v) (h : Q true s) : wpAny (model prog w) A (Builtin.SmallTypes.ownedTupleIsFree (.ref z)) Q E s := by
  unfold Builtin.SmallTypes.ownedTupleIsFree
  rcases g with rfl | ⟨T, rfl, n⟩
  · exact wpAny_bind (wpAny_field hz rfl (x := .none) rfl (wpAny_pure h))
  · refine wpAny_bind (wpAny_field hz rfl (x := rawInt T) rfl ?_)
    show wpAny _ _ (loadIfAlive ((T : Int).toNat) >>= _) _ _ _
    rw [Int.toNat_natCast]
    refine wpAny_bind (dead_at n ?_)
    simp only [Option.isNone_none, if_true]
    exact wpAny_pure h
theorem zip_gone {z tI tO j1 j2 a1 a2 : Addr} {n1 n2 : Nat} {us ws : Array Value} {x y p r v : Value} {q : Bool} {Q : Value → Shared → Prop} (D : ZipApart z tI tO j1 j2 a1 a2)
    (hz : ZipAt s.heap z tI tO v q) (hg : GoneV s.heap v) (pI : IsPair s.heap tI (.ref j1) (.ref j2)) (pO : IsPair s.heap tO p r)
    (g1 : s.heap.IsListIter j1 a1 n1) (g2 : s.heap.IsListIter j2 a2 n2) (la : s.heap.IsList a1 us) (lb : s.heap.IsList a2 ws) (ex : us[n1]? = some x) (ey : ws[n2]? = some y)
    (K : ∀ h', ZipAt h' z tI tO (rawInt s.heap.objs.size) false → IsPair h' tO x y → h'.IsListIter j1 a1 (n1 + 1) → h'.IsListIter j2 a2 (n2 + 1) → IsPair h' s.heap.objs.size x y → h'.objs.size = s.heap.objs.size + 1 →
      (∀ b o, b ≠ z → b ≠ tO → b ≠ j1 → b ≠ j2 → s.heap.get? b = some o → h'.get? b = some o) → Q (.ref s.heap.objs.size) { s with heap := h' }) :
    wpAny (model prog w) A (Builtin.«zip.__next__» ⟨[.ref z], []⟩) (fun fin s' => ∃ v, fin = .done (.ret v) ∧ Q v s') E s := by
  show wpAny _ A (field (.ref z) 2 >>= _) _ E s
  refine wpAny_bind (wpAny_field hz rfl (x := .bool false) rfl ?z1)
  show wpAny _ A (field (.ref z) 3 >>= _) _ E s
  refine wpAny_bind (wpAny_field hz rfl (x := .ref tI) rfl ?z2)
  refine wpAny_bind (wpAny_seqItems pI rfl ?z3)
  show wpAny _ A (Builtin.SmallTypes.ownedTupleIsFree (.ref z) >>= _) _ E s
  refine wpAny_bind (own_gone hz hg ?z4)
  simp only [if_true]
  refine wpAny_bind (wpAny_rule ?z5)
  refine wpAny_bind (wpAny_field hz rfl (x := .ref tO) rfl ?z6)
  refine wpAny_bind (wpAny_setField_rec hz (by simp) fun k1 zz1 c1 => ?z7)
  have zz1 : ZipAt k1 z tI tO .ellipsis q := zz1
  refine wpAny_bind ?z8
  simp only [List.zipIdx_cons, List.zipIdx_nil, List.forIn_cons, List.forIn_nil]
  refine wpAny_bind (wpAny_bind (wpAny_onRaise ?z9))
  show wpAny _ A (Builtin.SmallTypes.nextOf (.ref j1) >>= _) _ _ _
  refine wpAny_bind (wpAny_nextOf_list_item (g1.extBut c1.extBut D.i1z) (la.extBut c1.extBut D.l1z) ex fun k2 f1 c2 => wpAny_pure ?y1)
  have o2 : IsPair k2 tO p r := c2.extBut _ _ D.TOi1 (c1.extBut _ _ D.TOz pO)
  refine wpAny_bind (wpAny_seqItems o2 rfl ?y2)
  refine wpAny_bind (wpAny_updateSeq_pair o2 fun k3 o3 c3 => ?y3)
  have o3 : IsPair k3 tO x r := o3
  refine wpAny_bind (wpAny_letGo (wpAny_pure ?y4))
  refine wpAny_bind (wpAny_bind (wpAny_onRaise ?y5))
  show wpAny _ A (Builtin.SmallTypes.nextOf (.ref j2) >>= _) _ _ _
  refine wpAny_bind (wpAny_nextOf_list_item (((g2.extBut c1.extBut D.i2z).extBut c2.extBut D.i12.symm).extBut c3.extBut D.TOi2.symm) (((lb.extBut c1.extBut D.l2z).extBut c2.extBut D.l2i1).extBut c3.extBut D.l2TO) ey fun k4 f2 c4 => wpAny_pure ?y6)
  have o4 : IsPair k4 tO x r := c4.extBut _ _ D.TOi2 o3
  refine wpAny_bind (wpAny_seqItems o4 rfl ?y7)
  refine wpAny_bind (wpAny_updateSeq_pair o4 fun k5 o5 c5 => ?y8)
  have o5 : IsPair k5 tO x y := o5
  refine wpAny_bind (wpAny_letGo (wpAny_pure (wpAny_pure ?y9)))
  refine wpAny_bind (wpAny_seqItems o5 rfl ?x1)
  refine wpAny_bind (wpAny_newTuple ?x2)
  have sz : k5.objs.size = s.heap.objs.size := by rw [c5.1, c4.1, c3.1, c2.1, c1.1]
  have zz5 : ZipAt k5 z tI tO .ellipsis q := c5.extBut _ _ D.TOz.symm (c4.extBut _ _ D.i2z.symm (c3.extBut _ _ D.TOz.symm (c2.extBut _ _ D.i1z.symm zz1)))
  have kk : ∀ b o, b ≠ z → b ≠ tO → b ≠ j1 → b ≠ j2 → s.heap.get? b = some o → k5.get? b = some o := fun b o m1 m2 m3 m4 e => c5.extBut _ _ m2 (c4.extBut _ _ m4 (c3.extBut _ _ m2 (c2.extBut _ _ m3 (c1.extBut _ _ m1 e))))
  have f15 : k5.IsListIter j1 a1 (n1 + 1) := ((f1.extBut c3.extBut D.TOi1.symm).extBut c4.extBut D.i12).extBut c5.extBut D.TOi1.symm
  have f25 : k5.IsListIter j2 a2 (n2 + 1) := f2.extBut c5.extBut D.TOi2.symm
  have zlt : z < k5.objs.size := Heap.lt_size zz5
  show wpAny _ A (Builtin.SmallTypes.ownedTupleHandOut (.ref z) (.ref k5.objs.size) >>= _) _ E _
  refine wpAny_bind ?x3
  unfold Builtin.SmallTypes.ownedTupleHandOut
  have zz6 : ZipAt (k5.push { cls := .type "tuple", data := .seq #[x, y] }) z tI tO .ellipsis q := Heap.get?_push_of_some _ zz5
  refine wpAny_bind (wpAny_setField_rec zz6 (by simp) fun k7 zz7 c7 => ?x4)
  have zz7 : ZipAt k7 z tI tO (rawInt k5.objs.size) q := zz7
  refine wpAny_setField_rec zz7 (by simp) fun k8 zz8 c8 => ?x5
  have zz8 : ZipAt k8 z tI tO (rawInt k5.objs.size) false := zz8
  have upw : ∀ b o, b ≠ z → k5.get? b = some o → k8.get? b = some o := fun b o m1 e => c8.extBut _ _ m1 (c7.extBut _ _ m1 (Heap.get?_push_of_some _ e))
  have new8 : IsPair k8 k5.objs.size x y := c8.extBut _ _ (Nat.ne_of_gt zlt) (c7.extBut _ _ (Nat.ne_of_gt zlt) (Heap.get?_push_size _ rfl))
  have sz8 : k8.objs.size = k5.objs.size + 1 := by rw [c8.1, c7.1, Heap.size_push]
  rw [sz] at zz8 new8 sz8
  refine wpAny_pure ⟨.ref k5.objs.size, rfl, ?x6⟩
  rw [sz]
  exact K k8 zz8 (upw _ _ D.TOz o5) (f15.at fun o e => upw _ o D.i1z e) (f25.at fun o e => upw _ o D.i2z e) new8 sz8 fun b o m1 m2 m3 m4 e => upw b o m1 (kk b o m1 m2 m3 m4 e)
theorem zip_gone_end {z tI tO j1 j2 a1 a2 : Addr} {n1 n2 : Nat} {us ws : Array Value} {p r v : Value} {q : Bool} {Q : Fin → Shared → Prop} (hh : A.handled = none) (D : ZipApart z tI tO j1 j2 a1 a2)
    (hz : ZipAt s.heap z tI tO v q) (hg : GoneV s.heap v) (pI : IsPair s.heap tI (.ref j1) (.ref j2)) (pO : IsPair s.heap tO p r)
    (g1 : s.heap.IsListIter j1 a1 n1) (g2 : s.heap.IsListIter j2 a2 n2) (la : s.heap.IsList a1 us) (lb : s.heap.IsList a2 ws) (stop : us[n1]? = none ∨ ws[n2]? = none)
    (K : ∀ h' e, (∀ b o, b ≠ z → b ≠ tO → b ≠ j1 → b ≠ j2 → s.heap.get? b = some o → h'.get? b = some o) → (∃ o, h'.get? e = some o ∧ o.cls = .type "StopIteration") → E (.ref e) { s with heap := h' }) :
    wpAny (model prog w) A (Builtin.«zip.__next__» ⟨[.ref z], []⟩) Q E s := by
  show wpAny _ A (field (.ref z) 2 >>= _) _ E s
  refine wpAny_bind (wpAny_field hz rfl (x := .bool false) rfl ?z1)
  show wpAny _ A (field (.ref z) 3 >>= _) _ E s
  refine wpAny_bind (wpAny_field hz rfl (x := .ref tI) rfl ?z2)
  refine wpAny_bind (wpAny_seqItems pI rfl ?z3)
  show wpAny _ A (Builtin.SmallTypes.ownedTupleIsFree (.ref z) >>= _) _ E s
  refine wpAny_bind (own_gone hz hg ?z4)
  simp only [if_true]
  refine wpAny_bind (wpAny_rule ?z5)
  refine wpAny_bind (wpAny_field hz rfl (x := .ref tO) rfl ?z6)
  refine wpAny_bind (wpAny_setField_rec hz (by simp) fun k1 zz1 c1 => ?z7)
  have zz1 : ZipAt k1 z tI tO .ellipsis q := zz1
  refine wpAny_bind ?z8
  simp only [List.zipIdx_cons, List.zipIdx_nil, List.forIn_cons, List.forIn_nil]
  refine wpAny_bind (wpAny_bind (wpAny_onRaise ?z9))
  show wpAny _ A (Builtin.SmallTypes.nextOf (.ref j1) >>= _) _ _ _
  cases ex : us[n1]? with
  | none =>
    refine wpAny_bind (wpAny_nextOf_list_end hh (g1.extBut c1.extBut D.i1z) (la.extBut c1.extBut D.l1z) ex fun k2 e c2 ⟨oe, he, ce⟩ => ?y1)
    have zz2 : ZipAt k2 z tI tO .ellipsis q := c2 _ _ D.i1z.symm zz1
    have ne : e ≠ z := fun t => by subst t; rw [zz2] at he; cases he; simp at ce
    exact wpAny_setField_rec zz2 (by simp) fun k3 _ c3 => K k3 e (fun b o m1 _ m3 _ t => c3.extBut _ _ m1 (c2 _ _ m3 (c1.extBut _ _ m1 t))) ⟨oe, c3.extBut _ _ ne he, ce⟩
  | some x =>
    have ey : ws[n2]? = none := stop.resolve_left fun t => by rw [ex] at t; cases t
    refine wpAny_bind (wpAny_nextOf_list_item (g1.extBut c1.extBut D.i1z) (la.extBut c1.extBut D.l1z) ex fun k2 f1 c2 => wpAny_pure ?y2)
    have o2 : IsPair k2 tO p r := c2.extBut _ _ D.TOi1 (c1.extBut _ _ D.TOz pO)
    refine wpAny_bind (wpAny_seqItems o2 rfl ?y3)
    refine wpAny_bind (wpAny_updateSeq_pair o2 fun k3 o3 c3 => ?y4)
    refine wpAny_bind (wpAny_letGo (wpAny_pure ?y5))
    refine wpAny_bind (wpAny_bind (wpAny_onRaise ?y6))
    show wpAny _ A (Builtin.SmallTypes.nextOf (.ref j2) >>= _) _ _ _
    refine wpAny_bind (wpAny_nextOf_list_end hh (((g2.extBut c1.extBut D.i2z).extBut c2.extBut D.i12.symm).extBut c3.extBut D.TOi2.symm) (((lb.extBut c1.extBut D.l2z).extBut c2.extBut D.l2i1).extBut c3.extBut D.l2TO) ey fun k4 e c4 ⟨oe, he, ce⟩ => ?y7)
    have zz4 : ZipAt k4 z tI tO .ellipsis q := c4 _ _ D.i2z.symm (c3.extBut _ _ D.TOz.symm (c2.extBut _ _ D.i1z.symm zz1))
    have ne : e ≠ z := fun t => by subst t; rw [zz4] at he; cases he; simp at ce
    exact wpAny_setField_rec zz4 (by simp) fun k5 _ c5 => K k5 e (fun b o m1 m2 m3 m4 t => c5.extBut _ _ m1 (c4 _ _ m4 (c3.extBut _ _ m2 (c2.extBut _ _ m3 (c1.extBut _ _ m1 t))))) ⟨oe, c5.extBut _ _ ne he, ce⟩
/-- any zip of two lists -/
def ZipS (h : Heap) (z tI tO j1 j2 : Addr) : Prop := (∃ v q, ZipAt h z tI tO v q ∧ (v = .none ∨ ∃ T : Addr, v = rawInt T)) ∧ IsPair h tI (.ref j1) (.ref j2) ∧ ∃ p r, IsPair h tO p r
theorem zipS_item {z tI tO j1 j2 a1 a2 : Addr} {n : Nat} {us ws : Array Value} {x y : Value} {Q : Value → Shared → Prop} (D : ZipApart z tI tO j1 j2 a1 a2) (hz : ZipS s.heap z tI tO j1 j2)
    (g1 : s.heap.IsListIter j1 a1 n) (g2 : s.heap.IsListIter j2 a2 n) (la : s.heap.IsList a1 us) (lb : s.heap.IsList a2 ws) (ex : us[n]? = some x) (ey : ws[n]? = some y)
    (K : ∀ h', ZipS h' z tI tO j1 j2 → h'.IsListIter j1 a1 (n + 1) → h'.IsListIter j2 a2 (n + 1) → IsPair h' s.heap.objs.size x y → h'.objs.size = s.heap.objs.size + 1 →
      (∀ b o, b ≠ z → b ≠ tO → b ≠ j1 → b ≠ j2 → s.heap.get? b = some o → h'.get? b = some o) → Q (.ref s.heap.objs.size) { s with heap := h' }) :
    wpAny (model prog w) A (Builtin.SmallTypes.nextOf (.ref z)) Q E s := by
  obtain ⟨⟨v, q, hz, hv⟩, pI, p, r, pO⟩ := hz
  have ty : s.TypeIs (.ref z) "zip" := ⟨_, hz, rfl⟩
  unfold Builtin.SmallTypes.nextOf
  refine wpAny_bind (wpAny_callSpecial?_slot (name := Str.ofString "__next__") ty F.slot_zip_next (wpAny_call_entry F.slot_zip_next ty F.entry_zip_next ?_ (F.args_zip_next_1 _)))
  have gone : GoneV s.heap v → _ := fun g => zip_gone (E := E) (A := A.in1) (prog := prog) (w := w) (Q := fun u s' => wpAny (model prog w) A (pure u) Q E s') D hz g pI pO g1 g2 la lb ex ey fun h' b1 b2 b3 b4 b5 b6 b7 => wpAny_pure (K h' ⟨⟨_, _, b1, .inr ⟨_, rfl⟩⟩, b7 _ _ D.TIz D.TITO D.TIi1 D.TIi2 pI, _, _, b2⟩ b3 b4 b5 b6 b7)
  rcases hv with rfl | ⟨T, rfl⟩
  · exact gone (.inl rfl)
  · cases hT : s.heap.get? T with
    | none => exact gone (.inr ⟨T, rfl, hT⟩)
    | some oT => exact zip_next_item_held D hz hT pI g1 g2 la lb ex ey fun h' b1 b3 b4 b5 b6 b7 => wpAny_pure (K h' ⟨⟨_, _, b1, .inr ⟨_, rfl⟩⟩, b7 _ _ D.TIz D.TIi1 D.TIi2 pI, p, r, b7 _ _ D.TOz D.TOi1 D.TOi2 pO⟩ b3 b4 b5 b6 fun b o m1 _ m3 m4 t => b7 b o m1 m3 m4 t)
theorem zipS_end {z tI tO j1 j2 a1 a2 : Addr} {n : Nat} {us ws : Array Value} {Q : Value → Shared → Prop} (hh : A.in1.handled = none) (D : ZipApart z tI tO j1 j2 a1 a2) (hz : ZipS s.heap z tI tO j1 j2)
    (g1 : s.heap.IsListIter j1 a1 n) (g2 : s.heap.IsListIter j2 a2 n) (la : s.heap.IsList a1 us) (lb : s.heap.IsList a2 ws) (stop : us[n]? = none ∨ ws[n]? = none)
    (K : ∀ h' e, (∀ b o, b ≠ z → b ≠ tO → b ≠ j1 → b ≠ j2 → s.heap.get? b = some o → h'.get? b = some o) → (∃ o, h'.get? e = some o ∧ o.cls = .type "StopIteration") → E (.ref e) { s with heap := h' }) :
    wpAny (model prog w) A (Builtin.SmallTypes.nextOf (.ref z)) Q E s := by
  obtain ⟨⟨v, q, hz, hv⟩, pI, p, r, pO⟩ := hz
  have ty : s.TypeIs (.ref z) "zip" := ⟨_, hz, rfl⟩
  unfold Builtin.SmallTypes.nextOf
  refine wpAny_bind (wpAny_callSpecial?_slot (name := Str.ofString "__next__") ty F.slot_zip_next (wpAny_call_entry F.slot_zip_next ty F.entry_zip_next ?_ (F.args_zip_next_1 _)))
  rcases hv with rfl | ⟨T, rfl⟩
  · exact zip_gone_end hh D hz (.inl rfl) pI pO g1 g2 la lb stop K
  · cases hT : s.heap.get? T with
    | none => exact zip_gone_end hh D hz (.inr ⟨T, rfl, hT⟩) pI pO g1 g2 la lb stop K
    | some oT => exact zip_next_end_held hh D hz hT pI g1 g2 la lb stop fun h' e b7 => K h' e fun b o m1 _ m3 m4 t => b7 b o m1 m3 m4 t
end
end Ab
set_option Elab.async false
set_option linter.all false
set_option maxRecDepth 100000
set_option maxHeartbeats 4000000
/-! for k, (x, y) in enumerate(zip(xs, ys)), two lists. -/
namespace Ab
open PySem PySem.Spec PyProof.Rows L2
theorem meets_enumZ (z tI tO : Addr) :
    Meets (Builtin.«enumerate.__new__» ⟨[.type "enumerate", .ref z], []⟩) (fun _ R s => IsZip s.heap z tI tO .none ∧
      R (.ok (.ret (.ref s.heap.objs.size))) { s with heap := s.heap.push { cls := .type "enumerate", data := .fields #[.none, .bool false, .ref z, rawInt 0, .none, .none] } }) :=
  .of_wp fun prog w A R s hyp => by
    obtain ⟨hp, g, d, tk, os⟩ := s
    obtain ⟨hz, hyp⟩ := hyp
    have subs := sub_enumerate
    have begin_ : ∀ {A' : Around} {E Q : Value → Shared → Prop}, Q (.ref z) ⟨hp, g, d, tk, os⟩ → wpAny (model prog w) A' (pyIter (.ref z)) Q E ⟨hp, g, d, tk, os⟩ := fun q => wpAny_pyIter_zip hz q
    wp_walk using begin_
    refine wpAny_stack_any fun st =>
      wpAny_pure ?_
    split
    · rename_i c _ _ _ _ _
      cases (c == Value.type "enumerate")
      · wp_walk using begin_
        exact ⟨_, rfl, hyp⟩
      · wp_walk using begin_
        exact ⟨_, rfl, hyp⟩
    · wp_walk using begin_
      exact ⟨_, rfl, hyp⟩
section
variable {prog : Program} {w : World} {A : Around} {E : Value → Shared → Prop} {s : Shared}
theorem call_enumZ {z tI tO : Addr} {Q : Value → Shared → Prop} (hz : IsZip s.heap z tI tO .none)
    (h : ∀ h', IsEnum h' s.heap.objs.size z 0 .none → h'.objs.size = s.heap.objs.size + 1 → (∀ b o, s.heap.get? b = some o → h'.get? b = some o) → Q (.ref s.heap.objs.size) { s with heap := h' }) :
    wpAny (model prog w) A (call (.type "enumerate") [.ref z]) Q E s := by
  refine callType_new F.called_enumerate (by decide) (F.typeCall_enumerate_1 _) (F.newCall_enumerate_1 _) (fun obj => F.args_object_init_2 obj _) F.entry_enumerate_new (meets_enumZ z tI tO) ⟨hz, ?_⟩
  have he : IsEnum (s.heap.push { cls := .type "enumerate", data := .fields #[.none, .bool false, .ref z, rawInt 0, .none, .none] }) s.heap.objs.size z 0 .none := Heap.get?_push_size _ rfl
  exact ⟨⟨_, he, rfl⟩, h _ he (Heap.size_push ..) fun b o x => Heap.get?_push_of_some _ x⟩
theorem enumZ_item {e z tI tO j1 j2 a1 a2 : Addr} {n : Nat} {us ws : Array Value} {x y old : Value} {Q : Option Value → Shared → Prop} (D : ZipApart z tI tO j1 j2 a1 a2) (ez : e ≠ z) (eI : e ≠ tI) (eO : e ≠ tO) (e1 : e ≠ j1) (e2 : e ≠ j2)
    (he : IsEnum s.heap e z (n : Nat) old) (hz : ZipS s.heap z tI tO j1 j2) (g1 : s.heap.IsListIter j1 a1 n) (g2 : s.heap.IsListIter j2 a2 n) (la : s.heap.IsList a1 us) (lb : s.heap.IsList a2 ws) (ex : us[n]? = some x) (ey : ws[n]? = some y)
    (K : ∀ h' tk, IsEnumOut h' e z ((n : Int) + 1) (.ref s.heap.objs.size) (s.heap.objs.size + 1) → ZipS h' z tI tO j1 j2 → h'.IsListIter j1 a1 (n + 1) → h'.IsListIter j2 a2 (n + 1) → IsPair h' s.heap.objs.size x y → IsPair h' (s.heap.objs.size + 1) (.int n tk) (.ref s.heap.objs.size) → h'.objs.size = s.heap.objs.size + 2 →
      (∀ b o, b ≠ e → b ≠ z → b ≠ tO → b ≠ j1 → b ≠ j2 → s.heap.get? b = some o → h'.get? b = some o) → Q (some (.ref (s.heap.objs.size + 1))) { s with heap := h', toks := tk + 1 }) :
    wpAny (model prog w) A (pyNext (.ref e)) Q E s := by
  have ty : s.TypeIs (.ref e) "enumerate" := ⟨_, he, rfl⟩
  unfold pyNext
  refine wpAny_bind (wpAny_attempt (wpAny_callSpecial?_slot (name := Str.ofString "__next__") ty F.slot_enumerate_next (wpAny_call_entry F.slot_enumerate_next ty F.entry_enumerate_next ?_ (F.args_enumerate_next_1 _))))
  obtain ⟨hp, gs, dr, tk, os⟩ := s
  show wpAny _ _ (field (.ref e) 2 >>= _) _ _ ⟨hp, gs, dr, tk, os⟩
  refine wpAny_bind (wpAny_field he rfl (x := .ref z) rfl ?z1)
  refine wpAny_bind (zipS_item D hz g1 g2 la lb ex ey fun k1 zs1 f1 f2 pr sz kk => ?z2)
  have kk : ∀ b o, b ≠ z → b ≠ tO → b ≠ j1 → b ≠ j2 → hp.get? b = some o → k1.get? b = some o := kk
  have sz : k1.objs.size = hp.objs.size + 1 := sz
  have pr : IsPair k1 hp.objs.size x y := pr
  have he1 : IsEnum k1 e z (n : Nat) old := kk e _ ez eO e1 e2 he
  have elt : e < hp.objs.size := Heap.lt_size he
  show wpAny _ _ (field (.ref e) 3 >>= _) _ _ ⟨k1, gs, dr, tk, os⟩
  refine wpAny_bind (wpAny_field he1 rfl (x := rawInt n) rfl ?z3)
  show wpAny _ _ (field (.ref e) 4 >>= _) _ _ ⟨k1, gs, dr, tk, os⟩
  refine wpAny_bind (wpAny_field he1 rfl (x := .none) rfl ?z4)
  show wpAny _ _ (mkInt n >>= _) _ _ ⟨k1, gs, dr, tk, os⟩
  refine wpAny_bind (wpAny_mkInt ?z5)
  show wpAny _ _ (setField (.ref e) 3 (rawInt ((n : Int) + 1)) >>= _) _ _ ⟨k1, gs, dr, tk + 1, os⟩
  refine wpAny_bind (wpAny_setField_rec he1 (by simp) fun k2 he2 c2 => ?z6)
  have c2 : Heap.SameBut e k1 k2 := c2
  have he2 : IsEnum k2 e z ((n : Int) + 1) old := he2
  show wpAny _ _ (setField (.ref e) 4 .none >>= _) _ _ ⟨k2, gs, dr, tk + 1, os⟩
  refine wpAny_bind (wpAny_setField_rec he2 (by simp) fun k3 he3 c3 => ?z7)
  have c3 : Heap.SameBut e k2 k3 := c3
  have he3 : IsEnum k3 e z ((n : Int) + 1) old := he3
  show wpAny _ _ (newTuple [.int n tk, .ref hp.objs.size] >>= _) _ _ ⟨k3, gs, dr, tk + 1, os⟩
  refine wpAny_bind (wpAny_newTuple ?z8)
  have sz3 : k3.objs.size = hp.objs.size + 1 := by rw [c3.1, c2.1, sz]
  have he4 : IsEnum (k3.push { cls := .type "tuple", data := .seq #[.int n tk, .ref hp.objs.size] }) e z ((n : Int) + 1) old := Heap.get?_push_of_some _ he3
  have tp4 : IsPair (k3.push { cls := .type "tuple", data := .seq #[.int n tk, .ref hp.objs.size] }) (hp.objs.size + 1) (.int n tk) (.ref hp.objs.size) := by
    rw [← sz3]
    exact Heap.get?_push_size _ rfl
  have sz4 : (k3.push { cls := .type "tuple", data := .seq #[.int n tk, .ref hp.objs.size] }).objs.size = hp.objs.size + 2 := by rw [Heap.size_push, sz3]
  have up4 : ∀ b o, b ≠ e → k1.get? b = some o → (k3.push { cls := .type "tuple", data := .seq #[.int n tk, .ref hp.objs.size] }).get? b = some o := fun b o m1 t => Heap.get?_push_of_some _ (c3.extBut b o m1 (c2.extBut b o m1 t))
  rw [sz3]
  generalize k3.push { cls := .type "tuple", data := .seq #[.int n tk, .ref hp.objs.size] } = k4 at he4 tp4 sz4 up4 ⊢
  show wpAny _ _ (Builtin.SmallTypes.ownedTupleIsFree (.ref e) >>= _) _ _ ⟨k4, gs, dr, tk + 1, os⟩
  refine wpAny_bind ?z9
  unfold Builtin.SmallTypes.ownedTupleIsFree
  refine wpAny_bind (wpAny_field he4 rfl (x := .none) rfl (wpAny_pure ?y1))
  simp only [if_true]
  refine wpAny_bind (wpAny_rule ?y2)
  refine wpAny_bind (wpAny_field he4 rfl (x := old) rfl ?y3)
  refine wpAny_bind (wpAny_setField_rec he4 (by simp) fun k5 he5 c5 => ?y4)
  have c5 : Heap.SameBut e k4 k5 := c5
  have he5 : IsEnum k5 e z ((n : Int) + 1) (.ref hp.objs.size) := he5
  show wpAny _ _ (Builtin.SmallTypes.ownedTupleHandOut (.ref e) (.ref (hp.objs.size + 1)) >>= _) _ _ ⟨k5, gs, dr, tk + 1, os⟩
  refine wpAny_bind ?y5
  unfold Builtin.SmallTypes.ownedTupleHandOut
  refine wpAny_bind (wpAny_setField_rec he5 (by simp) fun k6 he6 c6 => ?y6)
  have c6 : Heap.SameBut e k5 k6 := c6
  have he6 : IsEnumOut k6 e z ((n : Int) + 1) (.ref hp.objs.size) (hp.objs.size + 1) := he6
  refine wpAny_setField_rec he6 (by simp) fun k7 he7 c7 => ?y7
  have c7 : Heap.SameBut e k6 k7 := c7
  have he7 : IsEnumOut k7 e z ((n : Int) + 1) (.ref hp.objs.size) (hp.objs.size + 1) := he7
  have up7 : ∀ b o, b ≠ e → k1.get? b = some o → k7.get? b = some o := fun b o m1 t => c7.extBut b o m1 (c6.extBut b o m1 (c5.extBut b o m1 (up4 b o m1 t)))
  have n0 : hp.objs.size ≠ e := Nat.ne_of_gt elt
  have n1 : hp.objs.size + 1 ≠ e := Nat.ne_of_gt (Nat.lt_succ_of_lt elt)
  obtain ⟨⟨v, q, hz1, hv⟩, pI, p, r, pO⟩ := zs1
  refine wpAny_bind (wpAny_letGo (wpAny_pure ⟨_, rfl, wpAny_pure (K k7 tk he7 ⟨⟨v, q, up7 z _ ez.symm hz1, hv⟩, up7 tI _ eI.symm pI, p, r, up7 tO _ eO.symm pO⟩ (f1.at fun o t => up7 j1 o e1.symm t) (f2.at fun o t => up7 j2 o e2.symm t) (up7 _ _ n0 pr) ?y8 ?y9 fun b o m0 m1 m2 m3 m4 t => up7 b o m0 (kk b o m1 m2 m3 m4 t))⟩))
  · exact c7.extBut _ _ n1 (c6.extBut _ _ n1 (c5.extBut _ _ n1 tp4))
  · show k7.objs.size = hp.objs.size + 2
    rw [c7.1, c6.1, c5.1, sz4]
theorem enumZ_end {e z tI tO j1 j2 a1 a2 : Addr} {n : Nat} {us ws : Array Value} {old : Value} {Q : Option Value → Shared → Prop} (hh : A.in1.in1.handled = none) (D : ZipApart z tI tO j1 j2 a1 a2)
    (he : IsEnum s.heap e z (n : Nat) old) (hz : ZipS s.heap z tI tO j1 j2) (g1 : s.heap.IsListIter j1 a1 n) (g2 : s.heap.IsListIter j2 a2 n) (la : s.heap.IsList a1 us) (lb : s.heap.IsList a2 ws) (stop : us[n]? = none ∨ ws[n]? = none)
    (K : ∀ h', (∀ b o, b ≠ z → b ≠ tO → b ≠ j1 → b ≠ j2 → s.heap.get? b = some o → h'.get? b = some o) → Q none { s with heap := h' }) :
    wpAny (model prog w) A (pyNext (.ref e)) Q E s := by
  have ty : s.TypeIs (.ref e) "enumerate" := ⟨_, he, rfl⟩
  unfold pyNext
  refine wpAny_bind (wpAny_attempt (wpAny_callSpecial?_slot (name := Str.ofString "__next__") ty F.slot_enumerate_next (wpAny_call_entry F.slot_enumerate_next ty F.entry_enumerate_next ?_ (F.args_enumerate_next_1 _))))
  show wpAny _ _ (field (.ref e) 2 >>= _) _ _ s
  refine wpAny_bind (wpAny_field he rfl (x := .ref z) rfl ?z1)
  refine wpAny_bind (zipS_end hh D hz g1 g2 la lb stop fun h' x kk ⟨o, ho, ho2⟩ => ?z2)
  refine wpAny_bind (wpAny_isInstance (T := "StopIteration") (b := true) ⟨o, ho, ho2⟩ isSubtype_stop ?z3)
  exact wpAny_pure (K h' kk)
end
def IteZ (K : PySem.W.Frag) (a b : Addr) : It :=
  ⟨fun i H => ∃ (xs ys : List V) (x y : V), SqL K H a xs ∧ SqL K H b ys ∧ xs[i]? = some x ∧ ys[i]? = some y,
    fun i H v H' => ∃ T T2 x y, v = .ref T2 ∧ H T = none ∧ H T2 = none ∧ T2 ≠ T ∧ H' = upd (upd H T (.tup [x, y])) T2 (.tup [.int (i : Nat), .ref T]) ∧ (∀ xs, SqL K H a xs → xs[i]? = some x) ∧ ∀ ys, SqL K H b ys → ys[i]? = some y,
    fun i H => ∃ xs ys : List V, SqL K H a xs ∧ SqL K H b ys ∧ (xs.length ≤ i ∨ ys.length ≤ i)⟩
theorem turn_enumZ {P : Program} {w : World} {K : PySem.W.Frag} {elts : List Expr} {kk : Nat} {tpos : Pos} {a b e z tI tO j1 j2 : Addr} (D : ZipApart z tI tO j1 j2 a b) (ez : e ≠ z) (eI : e ≠ tI) (eO : e ≠ tO) (e1 : e ≠ j1) (e2 : e ≠ j2) :
    Turn P w K (.Tuple elts kk tpos) (IteZ K a b) [e, z, tI, tO, j1, j2] e (fun i h => (∃ old, IsEnum h e z ((i : Nat) : Int) old) ∧ ZipS h z tI tO j1 j2 ∧ h.IsListIter j1 a i ∧ h.IsListIter j2 b i) where
  mem := by simp
  obj := fun i h st c hc => by
    obtain ⟨⟨old, he⟩, ⟨⟨v, q, hz, _⟩, pI, p, r, pO⟩, ⟨o1, i1, _, d1⟩, ⟨o2, i2, _, d2⟩⟩ := st
    simp only [List.mem_cons, List.not_mem_nil, or_false] at hc
    rcases hc with rfl | rfl | rfl | rfl | rfl | rfl
    · exact ⟨_, he, fun v q => nomatch q⟩
    · exact ⟨_, hz, fun v q => nomatch q⟩
    · exact ⟨_, pI, fun v q => nomatch q⟩
    · exact ⟨_, pO, fun v q => nomatch q⟩
    · exact ⟨o1, i1, fun v q => by rw [d1] at q; cases q⟩
    · exact ⟨o2, i2, fun v q => by rw [d2] at q; cases q⟩
  keep := fun i h h' st k => by
    obtain ⟨⟨old, he⟩, ⟨⟨v, q, hz, hv⟩, pI, p, r, pO⟩, g1, g2⟩ := st
    exact ⟨⟨old, k e (by simp) _ he⟩, ⟨⟨v, q, k z (by simp) _ hz, hv⟩, k tI (by simp) _ pI, p, r, k tO (by simp) _ pO⟩, g1.at fun o t => k j1 (by simp) o t, g2.at fun o t => k j2 (by simp) o t⟩
  item := by
    intro X hP hw hK hc i pins s σ H E I hf st hg
    subst hP hw hK
    obtain ⟨⟨old, he⟩, zs, g1, g2⟩ := st
    obtain ⟨xs, ys, x, y, hqx, hqy, hx, hy⟩ := hg
    obtain ⟨its, rv, p, _⟩ := I.list hqx
    obtain ⟨its2, rv2, p2, _⟩ := I.list hqy
    obtain ⟨u, hu, ru⟩ := rv.get hx
    obtain ⟨u2, hu2, ru2⟩ := rv2.get hy
    have le : e < s.heap.objs.size := Heap.lt_size he
    refine enumZ_item D ez eI eO e1 e2 he zs g1 g2 p.isList p2.isList (x := u) (y := u2) (by simpa using hu) (by simpa using hu2) fun h' tk ho zs' g1' g2' pr tp sz hk => ?_
    refine ⟨_, rfl, wpAny_letOwnedTupleGo_enum (s := { s with heap := h', toks := tk + 1 }) ho fun h2 he' sb => ?_⟩
    have n0 : s.heap.objs.size ≠ e := Nat.ne_of_gt le
    have n1 : s.heap.objs.size + 1 ≠ e := Nat.ne_of_gt (Nat.lt_succ_of_lt le)
    have pr2 : IsPair h2 s.heap.objs.size u u2 := (sb.2 _ n0).trans pr
    have tp2 : IsPair h2 (s.heap.objs.size + 1) (.int i tk) (.ref s.heap.objs.size) := (sb.2 _ n1).trans tp
    have low : ∀ c ∈ [e, z, tI, tO, j1, j2], c < s.heap.objs.size := fun c hcm => by
      obtain ⟨⟨v, q, hz, _⟩, pI, p, r, pO⟩ := zs
      obtain ⟨o1, q1, _⟩ := g1
      obtain ⟨o2, q2, _⟩ := g2
      simp only [List.mem_cons, List.not_mem_nil, or_false] at hcm
      rcases hcm with rfl | rfl | rfl | rfl | rfl | rfl
      · exact le
      · exact Heap.lt_size hz
      · exact Heap.lt_size pI
      · exact Heap.lt_size pO
      · exact Heap.lt_size q1
      · exact Heap.lt_size q2
    have new : ObjOk X.prog X.w (upd H s.heap.objs.size (.tup [x, y])) h2 s.heap.objs.size (.tup [x, y]) :=
      ⟨by show 2 ≤ sizeLine; decide, [u, u2], .cons ru (.cons ru2 .nil), _, pr2, rfl, _, rfl⟩
    have I1 : Inv X pins σ (upd H s.heap.objs.size (.tup [x, y])) { s with heap := h2, toks := tk + 1 } :=
      I.turnedNew (ch := [e, z, tI, tO, j1, j2]) (fun b ob hb t => (sb.2 b (fun m => hb (by simp [m]))).trans (hk b ob (fun m => hb (by simp [m])) (fun m => hb (by simp [m])) (fun m => hb (by simp [m])) (fun m => hb (by simp [m])) (fun m => hb (by simp [m])) t)) hf (Nat.le_refl _) new
    have n01 : s.heap.objs.size + 1 ≠ s.heap.objs.size := Nat.succ_ne_self _
    have f1 : H (s.heap.objs.size + 1) = none := I.hok.fresh (Nat.le_succ _)
    have I2 : Inv X pins σ (upd (upd H s.heap.objs.size (.tup [x, y])) (s.heap.objs.size + 1) (.tup [.int (i : Nat), .ref s.heap.objs.size])) { s with heap := h2, toks := tk + 1 } :=
      I1.take (h' := h2) (t' := tk + 1) (fun b ob _ t => t) (I.fpOk (Nat.le_succ _) (by rw [upd_ne n01]; exact f1)) ⟨by show 2 ≤ sizeLine; decide, [.int i tk, .ref s.heap.objs.size], .cons ⟨_, rfl⟩ (.cons rfl .nil), _, tp2, rfl, _, rfl⟩
    refine ⟨.ref (s.heap.objs.size + 1), _, I2, rfl, ⟨s.heap.objs.size, s.heap.objs.size + 1, x, y, rfl, I.hok.fresh (Nat.le_refl _), f1, n01, rfl, fun l hl => by rw [I.list_inj hl hqx]; exact hx, fun l hl => by rw [I.list_inj hl hqy]; exact hy⟩, ⟨⟨.ref s.heap.objs.size, ?_⟩, ?_, g1'.at fun o t => (sb.2 j1 (Ne.symm e1)).trans t, g2'.at fun o t => (sb.2 j2 (Ne.symm e2)).trans t⟩, fun c hcm => ?_⟩
    · have q1 : ((i + 1 : Nat) : Int) = (i : Int) + 1 := by omega
      rw [q1]
      exact he'
    · obtain ⟨⟨v, q, hz, hv⟩, pI, p, r, pO⟩ := zs'
      exact ⟨⟨v, q, (sb.2 z ez.symm).trans hz, hv⟩, (sb.2 tI eI.symm).trans pI, p, r, (sb.2 tO eO.symm).trans pO⟩
    · have := low c hcm
      rw [upd_ne (Nat.ne_of_lt (Nat.lt_succ_of_lt this)), upd_ne (Nat.ne_of_lt this)]
      exact (hf c hcm).1
  done := by
    intro X hP hw hK hc i pins s σ H E I hf st hg
    subst hP hw hK
    obtain ⟨⟨old, he⟩, zs, g1, g2⟩ := st
    obtain ⟨xs, ys, hqx, hqy, hend⟩ := hg
    obtain ⟨its, rv, p, _⟩ := I.list hqx
    obtain ⟨its2, rv2, p2, _⟩ := I.list hqy
    have l1 := rv.length
    have l2 := rv2.length
    have stop : its.toArray[i]? = none ∨ its2.toArray[i]? = none := by
      rcases hend with q | q
      · exact .inl (by simp; omega)
      · exact .inr (by simp; omega)
    exact enumZ_end (I.ok.hd hc) D he zs g1 g2 p.isList p2.isList stop fun h' hk => ⟨rfl, I.turnedL (t' := s.toks) (ch := [e, z, tI, tO, j1, j2]) (fun b ob hb t => hk b ob (fun m => hb (by simp [m])) (fun m => hb (by simp [m])) (fun m => hb (by simp [m])) (fun m => hb (by simp [m])) t) hf⟩
  self := fun A i s Q E st h => by
    obtain ⟨⟨_, he⟩, _⟩ := st
    exact wpAny_pyIter_enum he h
def iEnumZ (K : PySem.W.Frag) (ta : TA) : TI := fun σ H R => ta σ H fun vs H1 => ∃ a b xs ys, vs = [.ref a, .ref b] ∧ SqL K H1 a xs ∧ SqL K H1 b ys ∧ R (IteZ K a b) H1
theorem pi_enumZ {X : Cx} {c1 c2 : Expr} {ta : TA} {p p2 pos pos2 tpos : Pos} {elts : List Expr} {kk : Nat} (hg : Gl X "enumerate") (hm : X.mg "enumerate" = none) (hg2 : Gl X "zip") (hm2 : X.mg "zip" = none) (ha : PA X [c1, c2] ta)
    (hs : starEach [c1, c2] X.env = (false, eval c1 X.env) :: starEach [c2] X.env) (hpl : (backTo pos2 (starEach [c2] X.env)).any (·.1) = false)
    (hs2 : starEach [.Call (.Name "zip" p2) [c1, c2] [] pos2] X.env = (false, eval (.Call (.Name "zip" p2) [c1, c2] [] pos2) X.env) :: starEach [] X.env) :
    PI X (.Tuple elts kk tpos) (.Call (.Name "enumerate" p) [.Call (.Name "zip" p2) [c1, c2] [] pos2] [] pos) (iEnumZ X.K ta) := by
  constructor
  intro pins s σ H R I h
  refine Call_ (ld_blt I hg hm boot_enumerate (PyProof.Rows.callWith_type1 ?_ hs2 rfl))
  rw [hs2]
  show wpAny _ _ (spliced ((false, eval (.Call (.Name "zip" p2) [c1, c2] [] pos2) X.env) :: backTo pos (starEach [] X.env))) _ _ s
  refine Calls.spliced_cons (Call_ (ld_blt I hg2 hm2 PyProof.Rows.boot_zip (PyProof.Rows.callWith_type1 (thn (ha.run pos2 pins s σ H _ I h) fun us s1 ⟨vs, H1, I1, r1, q1⟩ => ?_) hs hpl)))
  obtain ⟨a, b, xs, ys, ex, hqx, hqy, q⟩ := q1
  subst ex
  obtain ⟨u1, u2, rfl, r1, r2⟩ := vals2 r1
  cases r1
  cases r2
  obtain ⟨its, rv, t1, _⟩ := I1.list hqx
  obtain ⟨its2, rv2, t2, _⟩ := I1.list hqy
  refine call_zip_2 t1.isList t2.isList fun h' hz hTI hTO h1 h2 hsz hk => ?_
  refine Calls.spliced_nil (call_enumZ (s := { s1 with heap := h' }) hz fun h3 he hsz3 hk3 => wpAny_pyIter_enum he ?_)
  have hsz' : h'.objs.size = s1.heap.objs.size + 5 := hsz
  have he : IsEnum h3 h'.objs.size (s1.heap.objs.size + 4) 0 .none := he
  have ne : ∀ k, k < s1.heap.objs.size + 5 → h'.objs.size ≠ k := fun k hk z => by
    rw [hsz'] at z
    omega
  have I2 : Inv X pins σ H1 { s1 with heap := h3 } := I1.kept (t' := s1.toks) fun b o t => hk3 b o (hk b o t)
  have D := PySem.W.ktu_apart s1.heap.objs.size a b t1.lt t2.lt
  refine ⟨h'.objs.size, [h'.objs.size, s1.heap.objs.size + 4, s1.heap.objs.size + 2, s1.heap.objs.size + 3, s1.heap.objs.size, s1.heap.objs.size + 1], _, _, H1, rfl, I2, turn_enumZ D (ne _ (by omega)) (ne _ (by omega)) (ne _ (by omega)) (ne _ (by omega)) (ne _ (by omega)), ⟨⟨.none, he⟩, ⟨⟨_, _, hk3 _ _ hz, .inl rfl⟩, hk3 _ _ hTI, _, _, hk3 _ _ hTO⟩, h1.at fun o t => hk3 _ o t, h2.at fun o t => hk3 _ o t⟩, fun c hcm => ?_, q⟩
  have hle : s1.heap.objs.size ≤ c := by
    simp only [List.mem_cons, List.not_mem_nil, or_false] at hcm
    rcases hcm with z | z | z | z | z | z <;> rw [z] <;> omega
  exact I1.fpOk hle (I1.hok.fresh hle)
theorem wi_enumZ {X : Cx} {Γ : List (Option D)} {S : List Cell} {Φ : List D → (List Cell → Prop) → List Cell → Prop} {Ξ : XP} {c1 c2 : Expr} {p p2 pos pos2 tpos : Pos} {elts : List Expr} {kk : Nat} (hg : Gl X "enumerate") (hm : X.mg "enumerate" = none) (hg2 : Gl X "zip") (hm2 : X.mg "zip" = none)
    (h : WE X c1 Γ S (fun d S1 => WE X c2 Γ S1 (fun d2 S2 => ∃ xs ys, LstD S2 d xs ∧ LstD S2 d2 ys ∧ Φ (enumD (zipD xs ys)) (fun S' => LstD S' d xs ∧ LstD S' d2 ys) S2) Ξ) Ξ)
    (hs : starEach [c1, c2] X.env = (false, eval c1 X.env) :: starEach [c2] X.env := by rfl) (hs3 : starEach [c2] X.env = (false, eval c2 X.env) :: starEach [] X.env := by rfl) (hpl : (backTo pos2 (starEach [c2] X.env)).any (·.1) = false := by rfl)
    (hs2 : starEach [.Call (.Name "zip" p2) [c1, c2] [] pos2] X.env = (false, eval (.Call (.Name "zip" p2) [c1, c2] [] pos2) X.env) :: starEach [] X.env := by rfl) :
    WI X (.Tuple elts kk tpos) (.Call (.Name "enumerate" p) [.Call (.Name "zip" p2) [c1, c2] [] pos2] [] pos) Γ S Φ Ξ :=
  have hw : WA X [c1, c2] Γ S (fun ds0 S1 => ∃ d d2 xs ys, ds0 = [d, d2] ∧ LstD S1 d xs ∧ LstD S1 d2 ys ∧ Φ (enumD (zipD xs ys)) (fun S' => LstD S' d xs ∧ LstD S' d2 ys) S1) Ξ := by
    refine wa_cons (h.imp fun d S1 q => wa_cons (q.imp fun d2 S2 q => wa_nil ?_) hs3) hs
    obtain ⟨xs, ys, q1, q2, q3⟩ := q
    exact ⟨d, d2, xs, ys, rfl, q1, q2, q3⟩
  ⟨_, pi_enumZ hg hm hg2 hm2 (pa_s [c1, c2]) hs hpl hs2, fun σ ρ M H R W ok sl k kx tk => hw σ ρ M H _ W ok sl (fun ds0 S1 vs0 ρ1 M1 H1 ⟨d, d2, xs, ys, e0, l1, l2, q⟩ t1 ok1 r0 => by
    subst e0
    obtain ⟨v, v2, rfl, r1, r2⟩ := rps2 r0
    obtain ⟨a, us, e1, q1, rs1⟩ := l1.at ok1 r1
    obtain ⟨b, ws, e2, q2, rs2⟩ := l2.at ok1 r2
    refine ⟨a, b, us, ws, by rw [e1, e2], q1, q2, k _ (enumD (zipD xs ys)) _ S1 ρ1 M1 H1 q t1 ok1 ?_⟩
    have get : ∀ S' ρ' M' H', Up ρ1 M1 ρ' M' → Ok (gd X) S' ρ' M' H' → (LstD S' d xs ∧ LstD S' d2 ys) → ∃ us' ws', SqL X.K H' a us' ∧ Rps (gd X) M' ρ' us' xs ∧ SqL X.K H' b ws' ∧ Rps (gd X) M' ρ' ws' ys := fun S' ρ' M' H' t' ok' ⟨g1, g2⟩ => by
      obtain ⟨a', us', e', q', rs'⟩ := g1.at ok' (t'.rp r1)
      obtain ⟨b', ws', f', p', ss'⟩ := g2.at ok' (t'.rp r2)
      rw [e1] at e'
      rw [e2] at f'
      cases e'
      cases f'
      exact ⟨us', ws', q', rs', p', ss'⟩
    refine ⟨fun i S' ρ' M' H' t' ok' g' hi => ?_, fun i S' ρ' M' H' x H2 t' ok' g' hi y => ?_, fun S' ρ' M' H' t' ok' g' => ?_⟩
    · obtain ⟨us', ws', q', rs', p', ss'⟩ := get S' ρ' M' H' t' ok' g'
      rw [enumD_len, zipD_len] at hi
      obtain ⟨x, hx⟩ := get_lt (l := xs) (i := i) (by omega)
      obtain ⟨y, hy⟩ := get_lt (l := ys) (i := i) (by omega)
      obtain ⟨vx, ev, _⟩ := rs'.get hx
      obtain ⟨vy, ew, _⟩ := ss'.get hy
      exact ⟨us', ws', vx, vy, q', p', ev, ew⟩
    · obtain ⟨us', ws', q', rs', p', ss'⟩ := get S' ρ' M' H' t' ok' g'
      obtain ⟨T, T2, x', y', ex, hT, hT2, ne, eH, z1, z2⟩ := y
      obtain ⟨dx, ed, rx⟩ := rs'.getV (z1 us' q')
      obtain ⟨dy, ed2, ry⟩ := ss'.getV (z2 ws' p')
      obtain ⟨ok2, t2⟩ := ok'.keep (o := .tup [x', y']) hT
      obtain ⟨ok3, t3⟩ := ok2.keep (p := T2) (o := .tup [.int (i : Nat), .ref T]) (by rw [upd_ne ne]; exact hT2)
      subst ex eH
      refine ⟨_, _, enumD_get (zipD_get ed ed2), t2.trans t3, ok3, .tup (SqT.of upd_same) (.cons (.int _) (.cons (t3.rp (.tup (SqT.of upd_same) (.cons (t2.rp rx) (.cons (t2.rp ry) .nil)))) .nil))⟩
    · obtain ⟨us', ws', q', rs', p', ss'⟩ := get S' ρ' M' H' t' ok' g'
      refine ⟨us', ws', q', p', ?_⟩
      rw [rs'.length, ss'.length, enumD_len, zipD_len]
      omega) kx tk⟩
end Ab
set_option Elab.async false
set_option linter.all false
set_option maxRecDepth 100000
set_option maxHeartbeats 4000000
/-! sorted(xs, key=lambda t: t[:2]), xs of tuples. -/
namespace Ab
open PySem PySem.Spec PyProof.Rows L2
/-- the lambda's body -/
abbrev cutB (y : Str) (j : Nat) (pn p1 p2 p3 : Pos) : Expr := .Subscript (.Name y pn) (.Slice none (some (.Constant (.int 2) j p1)) none p2) p3
theorem cut2 {n : Nat} (h : 2 < n) : HT.sIx n n (some 2) = 2 := by
  have e := HT.sIx_nat n n 2
  have e2 : HT.sIx n n (some 2) = min 2 n := e
  omega
theorem cut_call {P : Program} {w : World} {A : Around} {E : Value → Shared → Prop} {s : Shared} {f c' aw : Addr} {q y : Str} {params : Arguments} {scope : Scope} {pm ctv : Value} {pn p1 p2 p3 : Pos} {j : Nat} {its : Array Value} {Q : Value → Shared → Prop}
    (hd : A.depth < recursionLimit) (lim : s.heap.NoLimit) (hf : s.heap.get? f = some (PySem.W.kla_obj "<lambda>" q params (cutB y j pn p1 p2 p3) scope [] pm c' ctv)) (hc : s.heap.CodeRec (.ref c') q)
    (kind : scope.kind = .function) (co : scope.isCoroutine = false) (gen : scope.isGenerator = false) (hy : scope.names = [(y, .local)]) (hdb : (y == ("__debug__" : Str)) = false)
    (hb : bindArgs (PySem.W.kla_fn "<lambda>" q params (cutB y j pn p1 p2 p3) scope [] pm (.ref c') ctv) ⟨[.ref aw], []⟩ = pure [(y, .ref aw)])
    (ht : IsTup s.heap aw its) (h2 : 2 < its.size) (hz : its.size ≤ sizeLine)
    (h : ∀ h' tk p, (∀ b o, s.heap.get? b = some o → h'.get? b = some o) → IsTup h' p (its.toList.take 2).toArray → Q (.ref p) { s with heap := h', toks := tk }) :
    wpAny (model P w) A (call (.ref f) [.ref aw]) Q E s := by
  have hl : scope.names.lookup y = some .local := by rw [hy]; simp
  have main : codeAny (model P w) A (.call (.ref f) ⟨[.ref aw], []⟩) (fun r s' => ∃ u, r = .ok (.ret u) ∧ Q u s') s := by
    refine PySem.W.kla_callFunE hd hf rfl co gen rfl hc ?_
    rw [hb]
    refine wpAny_pure (wpAny_newFunctionEnv (fun z hz => ?_) (fun z hz => ?_) (fun h₁ hns hsb => ⟨lim.fresh _ hsb, ?_⟩) kind)
    · have hz : z ∈ scope.names := hz
      rw [hy] at hz
      rw [List.mem_singleton.mp hz]
      exact fun e => by cases e
    · rw [List.mem_singleton.mp hz]
      exact hl
    have kp : ∀ b o, s.heap.get? b = some o → h₁.get? b = some o := fun b o e => hsb.extBut b o (Nat.ne_of_lt (Heap.lt_size e)) (Heap.get?_push_of_some _ e)
    refine PySem.W.kla_codeExpr ?_
    refine Subscript_ (wpAny_Name (wpAny_loadName_local kind hl hns (v := .ref aw) (by simp) ?_) hdb)
    refine wpAny_Slice ?_
    rw [evalPart_none]
    refine wpAny_pure ?_
    rw [evalPart_some]
    refine wpAny_Constant_int ?_
    refine wpAny_pure ?_
    have ht2 : IsTup (h₁.push { cls := .type "slice", data := .fields #[.none, .int 2 (s.toks + [(y, Value.ref aw)].length), .none] }) aw its := (ht.keeps kp).keeps fun b o e => Heap.get?_push_of_some _ e
    have hw : ¬ (HT.sIx its.size 0 none = 0 ∧ HT.sIx its.size its.size (some 2) = its.size) := fun ⟨_, z⟩ => by
      rw [cut2 h2] at z
      omega
    refine tail_any (ops := [.ref h₁.objs.size, .ref aw]) (ht2.typeIs) PyProof.Rows.slot_tuple_getitem.lookup (HT.getItem_tuple_cut ht2 (Heap.IsSliceOf.new ..) .none (.int 2 _) hw ?_ hz) (by with_unfolding_all rfl)
    rw [cut2 h2]
    exact ⟨_, rfl, h _ _ _ (fun b o e => Heap.get?_push_of_some _ (Heap.get?_push_of_some _ (kp b o e))) (IsTup.new _ _)⟩
  refine wpAny_call (codeAny_mono main fun r s' ⟨u, e, q⟩ => ?_)
  subst e
  exact q
end Ab
set_option Elab.async false
set_option linter.all false
set_option maxRecDepth 100000
set_option maxHeartbeats 4000000
/-! The lambda made; sorted by it, over the store. -/
namespace Ab
open PySem PySem.Spec PyProof.Rows L2
/-- the lambda's name -/
abbrev lamQ (X : Cx) : Str := X.env.qual ++ "<lambda>"
theorem among_grow {l : List Value} {pos p' : Pos} {c cv : Value} (h : TriplesOk l) (hc : codeAmong p' (l ++ [rawInt pos.line, rawInt pos.col, c]) = some cv) : codeAmong p' l = some cv ∨ cv = c := LamX.among_app l h hc
theorem lam_new {X : Cx} {pins : List (Addr × Obj)} {σ : L2.St} {H : Hp} {s : Shared} {c P : Addr} {ps : Array Value} {params : Arguments} {body : Expr} {scope : Scope} {pos : Pos} {E : Value → Shared → Prop} {Q : Value → Shared → Prop}
    (I : Inv X pins σ H s) (TB : LamX.TabB X.base X.mg c P) (hcode : X.env.code = .ref c) (hP : H P = some (.tbl ps)) (ht : TriplesOk ps.toList)
    (hall : ∀ (p : Pos) (cv : Value), codeAmong p ps.toList = some cv → ∃ c0, cv = .ref c0 ∧ H c0 = some (LamX.CodeO c0 (lamQ X)))
    (hdef : defaultsOf params X.env = ([], [])) (hcl : closureFor scope X.env = pure [])
    (h : ∀ (f c' : Addr) (pm ctv : Value) (H1 : Hp) (s' : Shared), Inv X pins σ H1 s' → H1 c' = some (LamX.CodeO c' (lamQ X)) →
      (H1 = H ∨ ∃ qs : Array Value, H c' = none ∧ c' ≠ P ∧ H1 = upd (upd H P (.tbl qs)) c' (LamX.CodeO c' (lamQ X)) ∧ TriplesOk qs.toList ∧ ∀ p' cv, codeAmong p' qs.toList = some cv → codeAmong p' ps.toList = some cv ∨ cv = .ref c') →
      s'.heap.get? f = some (PySem.W.kla_obj "<lambda>" (lamQ X) params body scope [] pm c' ctv) → Q (.ref f) s') :
    wpAny (model X.prog X.w) X.A (eval (.Lambda params body scope pos) X.env) Q E s := by
  have bP := TB.bm.keeps I.bk
  have hP' : s.heap.get? P = some { cls := .none, data := .fields ps } := I.hok P _ hP
  refine PySem.W.kla_eval hdef ?_
  cases hc : codeAmong pos ps.toList with
  | some cv =>
    obtain ⟨c', e, hco⟩ := hall pos cv hc
    subst e
    refine PySem.W.kla_makeFunctionHit (mg := X.mg) (c := c) (P := P) (ps := ps) hcl I.ok.glob (I.mod.glob.keeps I.bk) hcode (TB.code.keeps I.bk) hP' ht hc bP fun ctv h' tk kp hsz => ?_
    exact h _ c' _ ctv H _ (I.kept (t' := tk) fun b o e => Heap.get?_push_of_some _ (kp b o e)) hco (.inl rfl) (Heap.get?_push_size _ rfl)
  | none =>
    refine PySem.W.kla_makeFunction (mg := X.mg) (c := c) (P := P) (ps := ps) hcl I.ok.glob (I.mod.glob.keeps I.bk) hcode (TB.code.keeps I.bk) hP' ht hc TB.gP bP fun c' ctv h' tk hx hge hlt hrec htb => ?_
    obtain ⟨c2, oc, vs, t, e2, hoc, hd, hv⟩ := hrec
    cases e2
    have nC : H c' = none := I.hok.fresh hge
    have I1 := LamX.inv_table (t' := tk) (more := #[rawInt pos.line, rawInt pos.col, .ref c']) (h' := h'.push (PySem.W.kla_obj "<lambda>" (lamQ X) params body scope [] ((X.mg "__name__").getD .none) c' ctv)) I hP
      (fun b o hb e => Heap.get?_push_of_some _ (hx b o hb e)) (Heap.get?_push_of_some _ htb) hge ⟨oc, vs, t, Heap.get?_push_of_some _ hoc, hd, hv⟩
    have eL : (ps ++ #[rawInt pos.line, rawInt pos.col, .ref c']).toList = ps.toList ++ [rawInt pos.line, rawInt pos.col, .ref c'] := by simp
    refine h _ c' _ ctv _ _ I1 upd_same (.inr ⟨_, nC, (ne_of_none hP nC).symm, rfl, ?_, fun p' cv z => ?_⟩) (Heap.get?_push_size _ rfl)
    · rw [eL]
      exact PySem.TriplesOk_snoc _ _ _ _ ht
    · rw [eL] at z
      exact among_grow ht z
theorem set_here {S : List Cell} {l : Nat} {c : Cell} (h : S[l]? = some c) : S.set l c = S := by
  apply List.ext_getElem?
  intro i
  rw [List.getElem?_set]
  by_cases e : l = i
  · subst e
    rw [if_pos rfl, if_pos (lt_of_get h), h]
  · rw [if_neg e]
/-- the store behind it -/
theorem Ok.lam {g : Gd} {S : List Cell} {ρ : List Addr} {M H H1 : Hp} {l : Nat} {P c' : Addr} {q : Str} {ps : Array Value} (k : Ok g S ρ M H) (hl : S[l]? = some (.tbl P q)) (hr : ρ[l]? = some P) (hP : H P = some (.tbl ps))
    (hall : ∀ (p : Pos) (cv : Value), codeAmong p ps.toList = some cv → ∃ c0, cv = .ref c0 ∧ M c0 = some (LamX.CodeO c0 q))
    (d : H1 = H ∨ ∃ qs : Array Value, H c' = none ∧ c' ≠ P ∧ H1 = upd (upd H P (.tbl qs)) c' (LamX.CodeO c' q) ∧ TriplesOk qs.toList ∧ ∀ p' cv, codeAmong p' qs.toList = some cv → codeAmong p' ps.toList = some cv ∨ cv = .ref c') :
    ∃ M1, Ok g S ρ M1 H1 ∧ To S ρ M H S ρ M1 H1 := by
  rcases d with e | ⟨qs, n1, n2, e, t, z⟩
  · subst e
    exact ⟨M, k, To.refl⟩
  · obtain ⟨k1, t1⟩ := k.keep (o := LamX.CodeO c' q) n1
    obtain ⟨k2, t2⟩ := k1.put (o := .tbl qs) (c' := .tbl P q) hl (fun z => by cases z) hr (.tbl rfl upd_same t fun p v hv => by
      rcases z p v hv with y | y
      · obtain ⟨c0, e0, e1⟩ := hall p v y
        refine ⟨c0, e0, ?_⟩
        rw [upd_ne (fun w => ?_)]
        · exact e1
        · have := k.sub _ _ e1
          rw [w, n1] at this
          cases this
      · exact ⟨c', y, upd_same⟩)
    rw [set_here hl] at k2 t2
    have eq : H1 = upd (upd H c' (LamX.CodeO c' q)) P (.tbl qs) := by
      rw [e]
      funext b
      by_cases h1 : b = c'
      · rw [h1, upd_same, upd_ne n2, upd_same]
      · rw [upd_ne h1]
        by_cases h2 : b = P
        · rw [h2, upd_same, upd_same]
        · rw [upd_ne h2, upd_ne h2, upd_ne h1]
    rw [eq]
    exact ⟨_, k2, t1.trans t2⟩
/-! ### the items: tuples that begin with a text and three numbers -/
structure WK where
  n : Str
  a : Int
  b : Int
  c : Int
  r0 : D
  rest : List D
abbrev wkD (k : WK) : D := .tup (.str k.n :: .tup [.int k.a, .int k.b, .int k.c] :: k.r0 :: k.rest)
def wkP (k : WK) : PyData := .tuple [.str k.n, .tuple [.int k.a, .int k.b, .int k.c]]
/-- an item in the heap -/
def WkAt (h : Heap) (u : Value) (k : WK) : Prop := ∃ aw its, u = .ref aw ∧ IsTup h aw its ∧ 2 < its.size ∧ its.size ≤ sizeLine ∧ ReadsAll h (its.toList.take 2) [.str k.n, .tuple [.int k.a, .int k.b, .int k.c]] []
theorem WkAt.keeps {h h' : Heap} {u : Value} {k : WK} (x : WkAt h u k) (kp : ∀ b o, h.get? b = some o → h'.get? b = some o) : WkAt h' u k := by
  obtain ⟨aw, its, e, t, a, b, r⟩ := x
  exact ⟨aw, its, e, t.keeps kp, a, b, PyProof.Rows.ReadsAll.keeps kp r⟩
theorem wk_at {X : Cx} {pins : List (Addr × Obj)} {σ : L2.St} {H M : Hp} {ρ : List Addr} {s : Shared} {v : V} {u : Value} {k : WK} (I : Inv X pins σ H s) (sm : Same M H) (r : Rp (gd X) M ρ v (wkD k)) (rv : RelV v u) : WkAt s.heap u k := by
  obtain ⟨a, vs, e, q, rs⟩ := rp_tup r
  subst e
  obtain rfl : u = Value.ref a := rv
  cases rs with
  | @cons v1 vs1 _ _ r1 rs1 =>
    cases rs1 with
    | @cons v2 vs2 _ _ r2 rs2 =>
      cases rs2 with
      | @cons v3 vs3 _ _ r3 rs3 =>
        obtain rfl := rp_str r1
        obtain ⟨e1, ws, ee, q2, rs4⟩ := rp_tup r2
        subst ee
        have hw : ws = [.int k.a, .int k.b, .int k.c] := by
          cases rs4 with
          | cons a1 t1 => cases t1 with
            | cons a2 t2 => cases t2 with
              | cons a3 t3 => cases t3; rw [rp_int a1, rp_int a2, rp_int a3]
        subst hw
        obtain ⟨its, rt, pt, hz⟩ := I.tuple (seqT sm q)
        obtain ⟨its2, rt2, pt2, _⟩ := I.tuple (seqT sm q2)
        have len := rt.length
        simp only [List.length_cons] at len
        cases rt with
        | @cons _ u1 _ us1 b1 c1 =>
          cases c1 with
          | @cons _ u2 _ us2 b2 c2 =>
            obtain ⟨t1, rfl⟩ := b1
            obtain rfl : u2 = Value.ref e1 := b2
            cases rt2 with
            | cons d1 f1 => cases f1 with
              | cons d2 f2 => cases f2 with
                | cons d3 f3 =>
                  cases f3
                  obtain ⟨t2, rfl⟩ := d1
                  obtain ⟨t3, rfl⟩ := d2
                  obtain ⟨t4, rfl⟩ := d3
                  obtain ⟨o2, g2, cl2, m2, da2⟩ := pt2
                  refine ⟨a, _, rfl, pt, by simp; simp at len; omega, by simp; simp at len hz; omega, ?_⟩
                  have ra : ReadsAll s.heap [.int k.a t2, .int k.b t3, .int k.c t4] [.int k.a, .int k.b, .int k.c] ([] ++ ([] ++ ([] ++ []))) := .cons (.int _ _) (.cons (.int _ _) (.cons (.int _ _) .nil))
                  have rb : ReadsAll s.heap [.str k.n t1, .ref e1] [.str k.n, .tuple [.int k.a, .int k.b, .int k.c]] ([] ++ ([] ++ [])) := .cons (.str _ _) (.cons (.tuple g2 cl2 da2 ra) .nil)
                  exact rb
end Ab
set_option Elab.async false
set_option linter.all false
set_option maxRecDepth 100000
set_option maxHeartbeats 4000000
/-! sorted(xs, key=lambda t: t[:2]) over the store. -/
namespace Ab
open PySem PySem.Spec PyProof.Rows L2
theorem each_wk {X : Cx} {pins : List (Addr × Obj)} {σ : L2.St} {H M : Hp} {ρ : List Addr} {s : Shared} (I : Inv X pins σ H s) (sm : Same M H) : ∀ {ks : List WK} {vs : List V} {us : List Value}, Rps (gd X) M ρ vs (ks.map wkD) → Vals vs us → PySem.W.EachIs (fun u (b : V × WK) => RelV b.1 u ∧ WkAt s.heap u b.2) us (vs.zip ks)
  | [], _, _, r, rv => by
    cases r
    cases rv
    exact .nil
  | k :: ks, _, _, r, rv => by
    cases r with
    | cons r1 r2 => cases rv with
      | cons a b => exact .cons ⟨a, wk_at I sm r1 a⟩ (each_wk I sm r2 b)
theorem each_vals {us : List Value} {bs : List (V × WK)} {h : Heap} (e : PySem.W.EachIs (fun u (b : V × WK) => RelV b.1 u ∧ WkAt h u b.2) us bs) : Vals (bs.map fun b => b.1) us := by
  induction e with
  | nil => exact .nil
  | cons r _ ih => exact .cons r.1 ih
theorem zip_wk {g : Gd} {M : Hp} {ρ : List Addr} : ∀ {ks : List WK} {vs : List V}, Rps g M ρ vs (ks.map wkD) → (∀ b ∈ vs.zip ks, Rp g M ρ b.1 (wkD b.2)) ∧ (vs.zip ks).map (fun b => b.2) = ks
  | [], _, r => by
    cases r
    exact ⟨fun b hb => (by cases hb), rfl⟩
  | k :: ks, _, r => by
    cases r with
    | cons r1 r2 =>
      obtain ⟨a, b⟩ := zip_wk r2
      refine ⟨fun x hx => ?_, by rw [List.zip_cons_cons, List.map_cons, b]⟩
      rw [List.zip_cons_cons] at hx
      rcases List.mem_cons.mp hx with e | hx
      · subst e; exact r1
      · exact a x hx
theorem rps_wk {g : Gd} {M : Hp} {ρ : List Addr} : ∀ {bs : List (V × WK)}, (∀ b ∈ bs, Rp g M ρ b.1 (wkD b.2)) → Rps g M ρ (bs.map fun b => b.1) ((bs.map fun b => b.2).map wkD)
  | [], _ => .nil
  | b :: bs, h => .cons (h b List.mem_cons_self) (rps_wk fun c hc => h c (List.mem_cons_of_mem _ hc))
theorem wkP_depth (k : WK) : (wkP k).depth = 2 := by simp [wkP, PyData.depth, PyData.depthAll]
section
variable {X : Cx} {Γ : List (Option D)} {S : List Cell} {Φ : D → List Cell → Prop} {Ξ : XP} {e : Expr} {p pos kpos lpos pn p1 p2 p3 : Pos} {j : Nat} {y : Str} {params : Arguments} {scope : Scope} {l : Nat} {c P : Addr}
theorem we_sortCut (hu : X.A.units + 80 < cLine) (hdp : X.A.depth < recursionLimit) (hg : Gl X "sorted") (hm : X.mg "sorted" = none) (TB : LamX.TabB X.base X.mg c P) (hcode : X.env.code = .ref c)
    (h : WE X e Γ S (fun d S1 => S1[l]? = some (.tbl P (lamQ X)) ∧ ∃ ks : List WK, LstD S1 d (ks.map wkD) ∧ ks.length ≤ 1000 ∧ ∀ zs : List WK, zs.Perm ks → Φ (.lst (zs.map wkD)) S1) Ξ)
    (kind : scope.kind = .function := by rfl) (co : scope.isCoroutine = false := by rfl) (gen : scope.isGenerator = false := by rfl) (hy : scope.names = [(y, .local)] := by rfl) (hdb : (y == ("__debug__" : Str)) = false := by decide)
    (hdef : defaultsOf params X.env = ([], []) := by rfl) (hcl : closureFor scope X.env = pure [] := by rfl)
    (hb : ∀ (pm cv ctv u : Value), bindArgs (PySem.W.kla_fn "<lambda>" (lamQ X) params (cutB y j pn p1 p2 p3) scope [] pm cv ctv) ⟨[u], []⟩ = pure [(y, u)] := by intros; rfl)
    (he : backTo pos (starEach [e] X.env) = (false, eval e X.env) :: backTo pos (starEach [] X.env) := by rfl) (he2 : starEach [e] X.env = (false, eval e X.env) :: starEach [] X.env := by rfl) (hpl : (backTo pos (starEach [e] X.env)).any (·.1) = false := by rfl) :
    WE X (.Call (.Name "sorted" p) [e] [⟨some "key", .Lambda params (cutB y j pn p1 p2 p3) scope lpos, kpos⟩] pos) Γ S Φ Ξ := fun σ ρ M H Q W ok sl kv kx tk => by
  intro pins s I
  refine wpAny_Call_Name_kw (ld_blt I hg hm boot_sorted ?_ (by decide) (by decide))
  have hw : WA X [e] Γ S (fun ds S1 => ∃ d, ds = [d] ∧ S1[l]? = some (.tbl P (lamQ X)) ∧ ∃ ks : List WK, LstD S1 d (ks.map wkD) ∧ ks.length ≤ 1000 ∧ ∀ zs : List WK, zs.Perm ks → Φ (.lst (zs.map wkD)) S1) Ξ := wa_cons (h.imp fun d S1 q => wa_nil ⟨d, rfl, q⟩) he2
  refine PyProof.Rows.callWith_kw (thn ((pa_s [e]).run pos pins s σ H (fun vs H1 => ∃ d S1 v ρ1 M1, vs = [v] ∧ (S1[l]? = some (.tbl P (lamQ X)) ∧ ∃ ks : List WK, LstD S1 d (ks.map wkD) ∧ ks.length ≤ 1000 ∧ ∀ zs : List WK, zs.Perm ks → Φ (.lst (zs.map wkD)) S1) ∧ To S ρ M H S1 ρ1 M1 H1 ∧ Ok (gd X) S1 ρ1 M1 H1 ∧ Rp (gd X) M1 ρ1 v d) I
    (hw σ ρ M H _ W ok sl (fun ds S1 vs ρ1 M1 H1 ⟨d, e1, q⟩ t1 ok1 r1 => by
      subst e1
      obtain ⟨v, e2, r2⟩ := rps1 r1
      exact ⟨d, S1, v, ρ1, M1, e2, q, t1, ok1, r2⟩) kx tk)) fun us s1 ⟨vs, H1, I1, r1, d, S1, v, ρ1, M1, e1, ⟨hl, ks, hx, hz, hk⟩, t1, ok1, r2⟩ => ?_) he hpl (by rfl) (by rfl)
  subst e1
  have hlt : l < ρ1.length := by
    rw [ok1.len]
    exact lt_of_get hl
  obtain ⟨P', hP'⟩ := get_lt hlt
  cases ok1.at_ l _ P' hl hP' with
  | @tbl _ _ ps eP hT hTr hall =>
    subst eP
    show wpAny _ _ (evalAll ((do let v ← eval (.Lambda params (cutB y j pn p1 p2 p3) scope lpos) X.env; standAt pos; pure v) :: (backToKw pos (keywordEach [] X.env)).map (·.2))) _ _ s1
    refine wpAny_evalAll_cons (wpAny_bind (lam_new I1 TB hcode hT hTr (fun p cv z => by
      obtain ⟨c0, a, b⟩ := hall p cv z
      exact ⟨c0, a, ok1.sub _ _ b⟩) hdef hcl fun f c' pm ctv H2 s2 I2 hco dis hf => wpAny_bind (wpAny_standAt (wpAny_pure ?_))))
    refine wpAny_evalAll_nil ?_
    obtain ⟨M2, ok2, t2⟩ := ok1.lam hl hP' hT hall dis
    obtain ⟨a, ws, ev, hq, rs⟩ := hx.at ok2 (t2.rp r2)
    subst ev
    obtain rfl := Vals.ref1 r1
    obtain ⟨its, rv, pl, hz2⟩ := I2.list hq
    obtain ⟨⟨oc, vs, t, hoc, hdc, hvc⟩, _, _⟩ := I2.hok c' _ hco
    have hlen : (ws.zip ks).length = ws.length := by
      have := rs.length
      rw [List.length_map] at this
      rw [List.length_zip]
      omega
    obtain ⟨z1, z2⟩ := zip_wk rs
    show wpAny _ _ (call (.builtin "sorted") [.ref a] [(Str.ofString "key", .ref f)]) _ _ s2
    refine PySem.W.sorted_key_data (vs := its) (bs := ws.zip ks) (b := false) (fun b => wkP b.2) pl.isList (each_wk I2 ok2.sub rs rv) (PySem.W.AllAlike.of fun x y => by simp [PySem.W.alike, PySem.W.alikeAll, wkP]) (PySem.W.Sortable.tuples fun b => ⟨_, _, rfl⟩) (by rw [hlen]; exact hz2) (fun b _ => by rw [wkP_depth]; omega)
      (PyProof.Rows.ksk_s1 _ _) (fun _ => PyProof.Rows.ksk_l1 _ _) (fun _ => PyProof.Rows.ksk_t1 _ _) (fun u b ⟨_, wk⟩ _ h tk kp => ?_) fun out c2 h' tk kp hn hD _ eo => ?_
    · obtain ⟨aw, its2, eu, tt, l2, l3, rd⟩ := wk.keeps kp
      subst eu
      refine cut_call (s := { s2 with heap := h, toks := tk }) hdp (I2.nolimit.keeps kp) (kp _ _ hf) ⟨c', oc, vs, t, rfl, kp _ _ hoc, hdc, hvc⟩ kind co gen hy hdb (hb _ _ _ _) tt l2 l3 fun h3 tk3 p4 kp3 tup => ?_
      obtain ⟨o, g1, g2, n, g3⟩ := tup
      exact ⟨h3, tk3, rfl, kp3, .tuple g1 g2 g3 (PyProof.Rows.ReadsAll.keeps kp3 rd)⟩
    · have hn' : H2 (s2.heap.objs.size + 1) = none := I2.hok.fresh (Nat.le_succ _)
      have vo := each_vals eo
      have perm := List.mergeSort_perm (ws.zip ks) (PySem.W.dataLe false fun b : V × WK => wkP b.2)
      obtain ⟨ok3, t3⟩ := ok2.keep (o := .lst (((ws.zip ks).mergeSort (PySem.W.dataLe false fun b : V × WK => wkP b.2)).map fun b => b.1)) hn'
      refine ⟨.ref (s2.heap.objs.size + 1), _, I2.laid (t' := tk) kp (Nat.le_succ _) (show ObjOk X.prog X.w _ _ _ (.lst _) from ⟨?_, out, c2, vo, hD⟩), rfl, kv _ S1 _ ρ1 _ _ (hk _ ?_) (t1.trans (t2.trans t3)) ok3 (.lst (SqL.of upd_same) (t3.rps (rps_wk fun b hb => z1 b (perm.mem_iff.mp hb))))⟩
      · rw [List.length_map, List.length_mergeSort, hlen]
        exact hz2
      · have := perm.map fun b => b.2
        rw [z2] at this
        exact this
end
end Ab
set_option Elab.async false
set_option linter.all false
set_option maxRecDepth 100000
set_option maxHeartbeats 4000000
/-! Keyword-only parameters; a def whose code object is told. -/
namespace Ab
open PySem PySem.Spec PyProof.Rows L2
section
variable {P : Program} {w : World} {K : PySem.W.Frag} {mg : Str → Option Value} {base : Heap} {x qual : Str} {params : Arguments} {body : List Stmt} {scope : Scope} {f : Addr} {fd : FuncData} {N ps : List Str} {k : Nat} {c : Ct}
abbrev postC (Φ : D → List Cell → Prop) (Ψ : Xn → List Cell → Prop) : Post := ⟨fun _ S' => Φ .non S', Φ, fun x _ S' => Ψ x S', fun _ _ => False, fun _ _ => False⟩
theorem slots_start {g : Gd} {M : Hp} {ρ : List Addr} {N : List Str} {vs : List V} {ds : List D} (r : Rps g M ρ vs ds) : Slots g M ρ (L2.start N vs) (ds.map some ++ List.replicate (N.length - ds.length) none) := by
  show Slots g M ρ (vs.map some ++ List.replicate (N.length - vs.length) none) _
  rw [r.length]
  refine ⟨by simp [r.length], fun i d e => ?_⟩
  by_cases hi : i < ds.length
  · rw [List.getElem?_append_left (by simpa using hi)] at e
    rw [List.getElem?_append_left (by simpa [r.length] using hi)]
    rw [List.getElem?_map] at e
    cases e2 : ds[i]? with
    | none => rw [e2] at e; cases e
    | some d' =>
      rw [e2] at e
      cases e
      obtain ⟨v, ev, rv⟩ := r.get e2
      exact ⟨v, by rw [List.getElem?_map, ev]; rfl, rv⟩
  · rw [List.getElem?_append_right (by simpa using Nat.le_of_not_lt hi)] at e
    have := List.mem_of_getElem? e
    rw [List.mem_replicate] at this
    cases this.2
/-- a def, its code object told, whatever defaults it has -/
theorem fnG_of {dvs : List V} {kws : List (Str × V)} (F : FunD K x qual params body scope dvs kws f fd) (Sc : FnScope N ps scope) (len : ∀ ds S Φ Ψ, c ds S Φ Ψ → ds.length = ps.length)
    (hbody : ∀ (A : Around) (outer : List Env) (s : Shared) (H : Hp) (E : XK), Room k (A.deeper (envOfC qual scope s.heap.objs.size f fd.code)) → ∀ ds S Φ Ψ, c ds S Φ Ψ →
      WB (cxOf (L2.CX P w) P w K mg base N qual scope f fd.code A outer s H E) body (ds.map some ++ List.replicate (N.length - ps.length) none) S (postC Φ Ψ)) :
    FnOk P w K mg base (L2.CX P w) (k + 1) f fd ps (spOf ⟨P, w, K⟩ c) := by
  obtain ⟨oc, od, dV, kV, doc, pm, an, cdv, ct, osl, rfl, lk, hcd, hD, hK⟩ := F.ex
  refine fn_of lk hcd Sc (fun vs H Q E h => ?_) fun A outer s H vs Q E hr h => ?_
  · obtain ⟨ds, S, ρ, M, Φ, Ψ, ok, rs, hc, kv, kx⟩ := h
    rw [rs.length]
    exact len _ _ _ _ hc
  · obtain ⟨ds, S, ρ, M, Φ, Ψ, ok, rs, hc, kv, kx⟩ := h
    refine ⟨_, pb_s body, hbody A outer s H E hr ds S Φ Ψ hc (L2.start N vs) ρ M H _ ok ?_ ⟨fun Γ' S' σ' ρ' M' H' p t ok' sl' => kv .non S' .non ρ' M' H' p t ok' .non, kv, fun _ _ _ _ _ _ p => p.elim, fun _ _ _ _ _ _ p => p.elim, (fun C od _ H => E C od H), fun x Γ' S' σ' ρ' M' H' od p t ok' sl' xr => kx x S' ρ' M' H' od p t ok' xr, takes_of rfl rfl rfl rfl⟩⟩
    have := slots_start (N := N) rs
    rw [len _ _ _ _ hc] at this
    exact this
theorem fnHc_of (N : List Str) {ps : List Str} (F : FunD K x qual params body scope [] [] f fd) (hm : mg x = some (.ref f)) (c : Ct)
    (hb : ∀ (kV doc pm : Value) (an : Option Addr) (cdv ct : Value) (us : List Value), us.length = ps.length → bindArgs (PySem.W.fnOf x qual params body scope .none kV doc pm an cdv ct) ⟨us, []⟩ = pure (ps.zip us))
    (Sc : FnScope N ps scope) (len : ∀ ds S Φ Ψ, c ds S Φ Ψ → ds.length = ps.length)
    (hbody : ∀ (A : Around) (outer : List Env) (s : Shared) (H : Hp) (E : XK), Room k (A.deeper (envOfC qual scope s.heap.objs.size f fd.code)) → ∀ ds S Φ Ψ, c ds S Φ Ψ →
      WB (cxOf (L2.CX P w) P w K mg base N qual scope f fd.code A outer s H E) body (ds.map some ++ List.replicate (N.length - ps.length) none) S (postC Φ Ψ)) :
    Has P w K mg base (k + 1) x ps c := ⟨f, fd, fnG_of F Sc len hbody, hm, F.kp, F.bindsN hb⟩
end
/-! ### a keyword-only parameter behind the others -/
abbrev KB1 (K : PySem.W.Frag) (fd : FuncData) (ps : List Str) (n : Nat) (kn : Str) : Prop := KBn K fd ps n [kn] (fun us ws => us ++ ws) (fun vs zs => vs ++ zs)
section
variable {K : PySem.W.Frag} {x qual kn : Str} {params : Arguments} {body : List Stmt} {scope : Scope} {v0 : V} {f : Addr} {fd : FuncData} {ps : List Str}
theorem kb1_of (F : FunD K x qual params body scope [] [(kn, v0)] f fd) (n : Nat)
    (h : ∀ (D : Addr) (doc pm : Value) (an : Option Addr) (cdv ct : Value) (us ws : List Value), us.length = n → ws.length = 1 → bindArgs (PySem.W.fnOf x qual params body scope .none (.ref D) doc pm an cdv ct) ⟨us, [kn].zip ws⟩ = pure (ps.zip (us ++ ws))) : KB1 K fd ps n kn := by
  obtain ⟨mv, q⟩ := FunD.kbinds0 (ps := ps) F n [kn] [] (fun us _ ws => us ++ ws) (by simp) (fun q hq => by cases hq) (fun a _ c => a.append c) fun D doc pm an cdv ct us mv ws h1 h2 h3 => by
    exact h D doc pm an cdv ct us ws h1 h3
  exact q
end
section
variable {X : Cx} {Γ : List (Option D)} {S : List Cell} {Φ : D → List Cell → Prop} {Ξ : XP} {k : Nat} {f C : Addr} {fd : FuncData} {ps : List Str} {c : Ct} {m kn x : Str} {o e ek : Expr} {p apos pos kpos : Pos}
theorem run_fnK {pins : List (Addr × Obj)} {σ : L2.St} {H : Hp} {s : Shared} {Q : VK} {E : L2.St → XK} {n : Nat} {us ws : List Value} {vs zs : List V} {sp : Sp} (F : FnOk X.prog X.w X.K X.mg X.base (L2.CX X.prog X.w) k f fd ps sp) (hr : Room k X.A) (hb : KB1 X.K fd ps n kn) (hx : PassesAt (L2.CX X.prog X.w) X σ (E σ))
    (I : Inv X pins σ H s) (r : Vals vs us) (rz : Vals zs ws) (l1 : vs.length = n) (l2 : zs.length = 1) (h : sp (vs ++ zs) H Q (E σ)) : wpAny (model X.prog X.w) X.A (call (.ref f) us ([kn].zip ws)) (EP X pins σ Q) X.xe s := by
  refine wpAny_call (codeAny_mono (F.run X.A X.stack s H ⟨us, [kn].zip ws⟩ (us ++ ws) (vs ++ zs) Q (E σ) hr I.env0 (hb.to s us ws I.kIn (r.length.symm.trans l1) (rz.length.symm.trans l2)) (r.append rz) h) fun r s' hq => ?_)
  cases r with
  | error e => exact hx pins H s e s' I hq
  | ok fl =>
    cases fl with
    | ret u => exact I.after hq
    | next => exact False.elim hq
    | brk => exact False.elim hq
    | cont => exact False.elim hq
/-- o.m(e, kn = ek) -/
theorem we_methK1 {pl : Sem Bool} (cl : Cls X.K C) (hm : Meth X.K C m f) (F : FnS X k f fd ps c) (hr : Room k X.A) (hb : KB1 X.K fd ps 2 kn)
    (h : WE X o Γ S (fun y S1 => (∃ fs, InsD S1 y C fs ∧ fs.lookup m = none) ∧ WE X e Γ S1 (fun d S2 => WE X ek Γ S2 (fun z S3 => c [y, d, z] S3 Φ (fun x S' => Ξ x Γ S')) Ξ) Ξ) Ξ)
    (hst : starEach [e] X.env = (false, eval e X.env) :: starEach [] X.env := by rfl) (hall : (backToKw pos (keywordEach [⟨some kn, ek, kpos⟩] X.env)).all (·.1.isSome) = true := by rfl)
    (hpl : ((backTo pos (starEach [e] X.env)).any (·.1) || (backToKw pos (keywordEach [⟨some kn, ek, kpos⟩] X.env)).any (·.1.isNone)) = false := by rfl)
    (ht : eval (.Call (.Attribute o m apos) [e] [⟨some kn, ek, kpos⟩] pos) X.env = (do
      let ov ← eval o X.env
      standAt apos.atName
      let (f, first) ← holding [ov] (getMethod ov m pl)
      callWith pos f first (backTo pos (starEach [e] X.env)) (backToKw pos (keywordEach [⟨some kn, ek, kpos⟩] X.env))) := by rfl) : WE X (.Call (.Attribute o m apos) [e] [⟨some kn, ek, kpos⟩] pos) Γ S Φ Ξ :=
  fun σ ρ M H Q W ok sl kv kx tk pins s I => by
    refine PySem.W.methodCall_KW (pl := pl) (thn ((pe_s o).run pins s σ H _ I (h σ ρ M H (fun vy H1 => ∃ a dx fv, vy = .ref a ∧ H1 a = some (.ins C dx fv) ∧ fv.lookup m = none ∧ sA X [e] σ H1 fun vs H2 => vs.length = 1 ∧ sE X ek σ H2 fun vz H3 => [vz].length = 1 ∧ spOf (gd X) c ((vy :: vs) ++ [vz]) H3 Q (L2.WE W σ)) W ok sl (fun y S1 vy ρ1 M1 H1 ⟨⟨fs, hi, hl⟩, h1⟩ t1 ok1 r1 => by
      obtain ⟨a, dx, fv, e1, q, n1, r2⟩ := hi.at ok1 r1
      refine ⟨a, dx, fv, e1, q, fld_no n1 hl, ?_⟩
      have hw : WA X [e] Γ S1 (fun ds S2 => ∃ d, ds = [d] ∧ WE X ek Γ S2 (fun z S3 => c [y, d, z] S3 Φ (fun x S' => Ξ x Γ S')) Ξ) Ξ := wa_cons (h1.imp fun d S2 q => wa_nil ⟨d, rfl, q⟩) hst
      refine hw σ ρ1 M1 H1 _ W ok1 (t1.slots sl) (fun ds S2 vs ρ2 M2 H2 ⟨d, e2, h2⟩ t2 ok2 r2 => ?_) (kx.to t1) tk
      subst e2
      obtain ⟨v, e3, r3⟩ := rps1 r2
      subst e3
      refine ⟨rfl, h2 σ ρ2 M2 H2 _ W ok2 ((t1.trans t2).slots sl) (fun z S3 vz ρ3 M3 H3 h3 t3 ok3 r4 => ?_) (kx.to (t1.trans t2)) tk⟩
      exact ⟨rfl, sp_go ok3 ((t1.trans (t2.trans t3)).slots sl) (.cons ((t2.trans t3).rp r1) (.cons (t3.rp r3) (.cons r4 .nil))) h3 (kv.to (t1.trans (t2.trans t3))) (kx.to (t1.trans (t2.trans t3)))⟩) kx tk)) fun u s1 ⟨vy, H1, I1, rx, a, dx, fv, ex, ea, l, q⟩ => ?_) ht
    subst ex
    obtain rfl : u = Value.ref a := rx
    refine getmeth_ok I1 ea cl hm l ?_
    refine PySem.W.callWith_KW (first := [.ref a]) (h₀ := X.base) I.ok.mod.kin hm.kp hall (thn ((pa_s [e]).run pos pins s1 σ H1 _ I1 q) fun us s2 ⟨vs, H2, I2, r, lv, q2⟩ => thn ((pk_cons (nm := some kn) (kpos := kpos) (pe_s ek) pk_nil).run pos pins s2 σ H2 (fun zs H3 => zs.length = 1 ∧ spOf (gd X) c ((.ref a :: vs) ++ zs) H3 Q (L2.WE W σ)) I2 q2) fun ws s3 ⟨zs, H3, I3, rz, lz, q3⟩ => ⟨I3.kIn, ?_⟩) hpl hst
    exact run_fnK (us := .ref a :: us) (vs := .ref a :: vs) (E := fun σ => L2.WE W σ) F hr hb (passAt tk σ) I3 (.cons rfl r) rz (by rw [List.length_cons, lv]) lz q3
/-- o.m(e), the keyword-only one lacks: its default is dd -/
theorem we_methD1 {pl : Sem Bool} {v0 : V} {dd : D} {d0 : List Value} (cl : Cls X.K C) (hm : Meth X.K C m f) (F : FnS X k f fd ps c) (hr : Room k X.A) (hb : Binds X.K fd ps d0) (hv : Vals [v0] d0) (h0 : ∀ M ρ, Rp (gd X) M ρ v0 dd)
    (h : WE X o Γ S (fun y S1 => (∃ fs, InsD S1 y C fs ∧ fs.lookup m = none) ∧ WE X e Γ S1 (fun d S2 => c [y, d, dd] S2 Φ (fun x S' => Ξ x Γ S')) Ξ) Ξ)
    (hst : starEach [e] X.env = (false, eval e X.env) :: starEach [] X.env := by rfl) (hpl : (backTo pos (starEach [] X.env)).any (·.1) = false := by rfl)
    (ht : eval (.Call (.Attribute o m apos) [e] [] pos) X.env = (do
      let ov ← eval o X.env
      standAt apos.atName
      let (f, first) ← holding [ov] (getMethod ov m pl)
      callWith pos f first (backTo pos (starEach [e] X.env)) (backToKw pos (keywordEach [] X.env))) := by rfl) : WE X (.Call (.Attribute o m apos) [e] [] pos) Γ S Φ Ξ :=
  fun σ ρ M H Q W ok sl kv kx tk pins s I => by
    refine PySem.W.methodCall_KW (pl := pl) (thn ((pe_s o).run pins s σ H _ I (h σ ρ M H (fun vy H1 => ∃ a dx fv, vy = .ref a ∧ H1 a = some (.ins C dx fv) ∧ fv.lookup m = none ∧ sA X [e] σ H1 fun vs H2 => spOf (gd X) c ((vy :: vs) ++ [v0]) H2 Q (L2.WE W σ)) W ok sl (fun y S1 vy ρ1 M1 H1 ⟨⟨fs, hi, hl⟩, h1⟩ t1 ok1 r1 => by
      obtain ⟨a, dx, fv, e1, q, n1, r2⟩ := hi.at ok1 r1
      refine ⟨a, dx, fv, e1, q, fld_no n1 hl, ?_⟩
      have hw : WA X [e] Γ S1 (fun ds S2 => ∃ d, ds = [d] ∧ c [y, d, dd] S2 Φ (fun x S' => Ξ x Γ S')) Ξ := wa_cons (h1.imp fun d S2 q => wa_nil ⟨d, rfl, q⟩) hst
      refine hw σ ρ1 M1 H1 _ W ok1 (t1.slots sl) (fun ds S2 vs ρ2 M2 H2 ⟨d, e2, h2⟩ t2 ok2 r2 => ?_) (kx.to t1) tk
      subst e2
      obtain ⟨v, e3, r3⟩ := rps1 r2
      subst e3
      exact sp_go ok2 ((t1.trans t2).slots sl) (.cons (t2.rp r1) (.cons r3 (.cons (h0 _ _) .nil))) h2 (kv.to (t1.trans t2)) (kx.to (t1.trans t2))) kx tk)) fun u s1 ⟨vy, H1, I1, rx, a, dx, fv, ex, ea, l, q⟩ => ?_) ht
    subst ex
    obtain rfl : u = Value.ref a := rx
    refine getmeth_ok I1 ea cl hm l ?_
    refine PySem.W.callWith_K (first := [.ref a]) (h₀ := X.base) I.ok.mod.kin hm.kp (thn ((pa_s [e]).run pos pins s1 σ H1 _ I1 q) fun us s2 ⟨vs, H2, I2, r, q2⟩ => ⟨I2.kIn, ?_⟩) hst hpl
    exact run_fnSD (us := .ref a :: us) (vs := .ref a :: vs) (E := fun σ => L2.WE W σ) F hr hb hv (passAt tk σ) I2 (.cons rfl r) q2
/-- C(kn = ek) -/
theorem we_makeK1 (Mk_ : Mk X.K C f) (F : FnS X k f fd ps c) (hr : Room (k + 1) X.A) (hm : X.mg x = some (.ref C)) (hb : KB1 X.K fd ps 1 kn)
    (h : WE X ek Γ S (fun z S1 => c [.ptr S1.length, z] (S1 ++ [.ins C []]) (fun d S' => d = .non ∧ Φ (.ptr S1.length) S') (fun _ _ => False)) Ξ) (hg : Gl X x := by rfl) (hdb : (x == ("__debug__" : Str)) = false := by decide)
    (hall : (backToKw pos (keywordEach [⟨some kn, ek, kpos⟩] X.env)).all (·.1.isSome) = true := by rfl) (hks : (backToKw pos (keywordEach [⟨some kn, ek, kpos⟩] X.env)).filterMap (·.1) = [kn] := by rfl)
    (hpl : ((backTo pos (starEach [] X.env)).any (·.1) || (backToKw pos (keywordEach [⟨some kn, ek, kpos⟩] X.env)).any (·.1.isNone)) = false := by rfl) : WE X (.Call (.Name x p) [] [⟨some kn, ek, kpos⟩] pos) Γ S Φ Ξ :=
  fun σ ρ M H Q W ok sl kv kx tk => PE.s (pe_makeK0 Mk_ F hr hg hm hb passL (pk_cons (nm := some kn) (kpos := kpos) (pe_s ek) pk_nil) hall hks hdb hpl) (h σ ρ M H _ W ok sl (fun z S1 vz ρ1 M1 H1 h1 t1 ok1 r1 => ⟨rfl, rfl, fun x dx hx hd ne => by
    obtain ⟨ok2, t2⟩ := ok1.made (C := C) hx hd ne
    have hp : (ρ1 ++ [x])[S1.length]? = some x := by
      rw [← ok1.len]
      simp
    refine ⟨_, _, _, _, _, _, ok2, .cons (.ptr hp) (.cons (t2.rp r1) .nil), h1, fun d S' v ρ' M' H' ⟨e, p⟩ t ok' r => ?_, fun x S' ρ' M' H' od p => p.elim⟩
    subst e
    exact ⟨rp_non r, kv _ S' _ ρ' M' H' p ((t1.trans t2).trans t) ok' (.ptr (t.pre _ _ hp))⟩⟩) kx tk)
end
/-! ### what is known of them -/
def HasMK (P : Program) (w : World) (K : PySem.W.Frag) (mg : Str → Option Value) (base : Heap) (k : Nat) (C : Addr) (m : Str) (ps : List Str) (kn : Str) (v0 : V) (c : Ct) : Prop :=
  ∃ f fd, FnOk P w K mg base (L2.CX P w) k f fd ps (spOf ⟨P, w, K⟩ c) ∧ Meth K C m f ∧ KB1 K fd ps 2 kn ∧ ∃ ds, Vals [v0] ds ∧ Binds K fd ps ds
def HasCK (P : Program) (w : World) (K : PySem.W.Frag) (mg : Str → Option Value) (base : Heap) (k : Nat) (x : Str) (C : Addr) (ps : List Str) (kn : Str) (c : Ct) : Prop :=
  ∃ f fd, FnOk P w K mg base (L2.CX P w) k f fd ps (spOf ⟨P, w, K⟩ c) ∧ mg x = some (.ref C) ∧ Mk K C f ∧ KB1 K fd ps 1 kn
end Ab
set_option Elab.async false
set_option linter.all false
set_option maxRecDepth 100000
set_option maxHeartbeats 4000000
/-! An own exception with one field: raised, caught, its field read. -/
namespace Ab
open PySem PySem.Spec PyProof.Rows L2
theorem Slots.unset {g : Gd} {M : Hp} {ρ : List Addr} {σ : L2.St} {Γ : List (Option D)} (h : Slots g M ρ σ Γ) {v w : V} {d : D} (r : Rp g M ρ w d) {i j : Nat} (hij : i ≠ j) : Slots g M ρ (((σ.set i (some v)).set j (some w)).set i none) ((Γ.set j (some d)).set i none) := by
  refine ⟨by simp only [List.length_set]; exact h.len, fun k x e => ?_⟩
  by_cases hk : i = k
  · subst hk
    rw [List.getElem?_set] at e
    simp only [if_true] at e
    split at e <;> cases e
  · rw [List.getElem?_set_ne hk] at e ⊢
    by_cases hj : j = k
    · subst hj
      have hl : j < Γ.length := by
        have := (List.getElem?_eq_some_iff.mp e).1
        rw [List.length_set] at this
        exact this
      rw [List.getElem?_set_self hl] at e
      cases e
      exact ⟨w, List.getElem?_set_self (by rw [List.length_set, h.len]; exact hl), r⟩
    · rw [List.getElem?_set_ne hj] at e ⊢
      rw [List.getElem?_set_ne hk]
      exact h.at_ k x e
section
variable {X : Cx} {Γ : List (Option D)} {S : List Cell} {P : Post} {n x y fl : Str} {i iy : Nat} {CF : Addr} {body : List Stmt} {np pn0 pos pos' pa pt pl py : Pos}
/-- what the clause makes of it -/
def tCaught (CF : Addr) (fl : Str) (i iy : Nat) : Addr → Value → Option Addr → TS := fun a cls d => tAsg (tLst (tCons (tXf a cls d CF fl (tVar i)) tNil)) (gName iy)
/-- try: .. / except C as n: y = [n.fl] -/
theorem ws_tryAt (hs : X.stack = X.env :: X.outer) (hf : X.env.frame = some X.env.locals) (hN : X.N.Nodup) (hi : X.N[i]? = some n) (hiy : X.N[iy]? = some y) (hij : i ≠ iy) (hln : X.env.kindOf n = some .local) (hly : X.env.scope.names.lookup y = some .local) (hc : Names X x (.ref CF)) (T : XfC X.K CF) (hno : PySem.W.findIn X.K (.ref CF) fl = some none) (hex : PySem.W.exmOne X.K (.ref CF) (.ref CF) = some true)
    (hb : ∀ (pn : List (Addr × Obj)) (xe : Value → Shared → Prop), PassesOwn (model X.prog X.w) X.A X.env xe → WB (X.tr pn xe) body Γ S { P with ex := fun xn Γ' S' => xn.C = CF ∧ i < Γ'.length ∧ ∃ d, xn.fs = [(fl, d)] ∧ P.nx ((Γ'.set iy (some (.lst [d]))).set i none) S' })
    (hvn : Vis X.env.scope n := by exact .inl rfl) (hyl : Loc X.env.scope y := by exact .inl rfl) (hd : (n == ("__debug__" : Str)) = false := by decide) (hcd : (n == ("__classdict__" : Str)) = false := by decide) (hab : attributeBase (.Name n pn0) fl X.env (eval (.Name n pn0) X.env) = eval (.Name n pn0) X.env := by rfl)
    (hse : starEach [.Attribute (.Name n pn0) fl pa] X.env = (false, eval (.Attribute (.Name n pn0) fl pa) X.env) :: starEach [] X.env := by rfl) (hsw : swapsWith (.List [.Attribute (.Name n pn0) fl pa] pl) (some (.Name y py)) pt.line X.env = pure false := by rfl) :
    WS X (.Try body [.ExceptHandler (some (.Name x np)) (some n) [.Assign [.Name y py] (.List [.Attribute (.Name n pn0) fl pa] pl) pt] pos'] [] [] pos) Γ S P := fun σ ρ M H E ok sl sat => by
  obtain ⟨Wo, kxo, tko⟩ := sat.ex
  refine PS.s (ps_try_as (c := .ref CF) (Wout := fun _ _ _ _ => False) (i := i) (ts := tCaught CF fl i iy) (tb := fun W D σ H => ∀ (pn : List (Addr × Obj)) (xe : Value → Shared → Prop), Takes (X.tr pn xe) W → PassesOwn (model X.prog X.w) X.A X.env xe → sB (X.tr pn xe) body D σ H)
    hs hf hN hi hln hc takes0 (fun W pn xe tk pw => ⟨fun pins s σ H D I h => h pn xe tk pw pins s I⟩) (fun a oe cls d pn hz hfl => ?_)) (fun pn xe tk pw => ?_)
  · refine pss_one (ps_set (X := X.suite a ((a, oe) :: pn)) hN hiy hyl (pe_lst (pa_cons (pe_xf T hno hz hfl (pe_var hi hvn hd hcd) hab) pa_nil hse)) hsw (.inr hly))
  · refine hb pn xe pw σ ρ M H E ok sl ⟨sat.nx, sat.rt, sat.bk, sat.ct, _, fun xn Γ' S' σ' ρ' M' H' od ⟨eC, hl, d, ef, q⟩ t ok' sl' xr => ?_, tk⟩
    subst eC
    refine ⟨true, hex, fun _ a ha => ?_, fun z => by cases z⟩
    rcases xr with ⟨e0, _⟩ | ⟨dd, fv, e1, e2, e3, e4⟩
    · rw [ef] at e0
      cases e0
    · rw [ef] at e3 e4
      obtain ⟨v, efv, rv⟩ : ∃ v, fv = [(fl, v)] ∧ Rp (gd X) M' ρ' v d := by
        match fv, e3, e4 with
        | [(f1, v1)], e3, .cons r .nil =>
          have e3 : [f1] = [fl] := e3
          cases e3
          exact ⟨v1, rfl, r⟩
      subst efv
      refine ⟨.ref a, List.getElem?_set_self (by rw [sl'.len]; exact hl), rfl, rfl, dd, [(fl, v)], v, e1, e2, by simp, (show 1 ≤ sizeLine by decide), fun p hp => ?_⟩
      obtain ⟨ok2, t2⟩ := ok'.keep (o := .lst [v]) hp
      exact sat.nx _ S' _ ρ' _ _ q (t.trans t2) ok2 ((t2.slots sl').unset (.lst (SqL.of upd_same) (t2.rps (.cons rv .nil))) hij)
/-! ### raise C(e) -/
/-- C's own __init__ keeps one field -/
def spXn (K : PySem.W.Frag) (fl : Str) : Sp := fun vs H Q _ => ∃ a C y, vs = [.ref a, y] ∧ OexC K C ∧ PySem.W.findIn K (.ref C) fl = some none ∧ H a = some (exo a C none) ∧ ∀ dx, H dx = none → dx ≠ a → Q .non (upd (upd H dx (exd dx [(fl, y)])) a (exo a C (some dx)))
/-- what is known of C -/
def HasXn (P : Program) (w : World) (K : PySem.W.Frag) (mg : Str → Option Value) (base : Heap) (k : Nat) (x fl : Str) (ps : List Str) (C : Addr) : Prop :=
  ∃ f fd, FnOk P w K mg base (L2.CX P w) k f fd ps (spXn K fl) ∧ mg x = some (.ref C) ∧ OexC K C ∧ PySem.W.findIn K (.ref C) fl = some none ∧ PySem.W.findIn K (.ref C) "__init__" = some (some (.ref f)) ∧ PySem.W.typeIn K (.ref f) = some (.type "function") ∧ Binds K fd ps []
theorem ws_raiseAt {k : Nat} {ps : List Str} {C : Addr} {e : Expr} {p pos1 : Pos} (hh : HasXn X.prog X.w X.K X.mg X.base k x fl ps C) (hc : X.calm = true) (hr : Room (k + 1) X.A)
    (h : WE X e Γ S (fun d S1 => P.ex ⟨C, [(fl, d)]⟩ Γ S1) P.ex) (hg : Gl X x := by rfl) (hdb : (x == ("__debug__" : Str)) = false := by decide) (he : starEach [e] X.env = (false, eval e X.env) :: starEach [] X.env := by rfl) (hpl : (backTo pos1 (starEach [] X.env)).any (·.1) = false := by rfl) :
    WS X (.Raise (some (.Call (.Name x p) [e] [] pos1)) none pos) Γ S P := fun σ ρ M H E ok sl sat => by
  obtain ⟨W, kx, tk⟩ := sat.ex
  obtain ⟨f, fd, F, hm, T, hno, iC, tI, hb⟩ := hh
  refine PS.s (ps_raise hc tk (pmk_oex (ds := []) (dvs := []) T iC tI F hr hb .nil passL hg hm (pa_s [e]) hdb he hpl)) ?_
  have hw : WA X [e] Γ S (fun ds S1 => ∃ d, ds = [d] ∧ P.ex ⟨C, [(fl, d)]⟩ Γ S1) P.ex := wa_cons (h.imp fun d S1 q => wa_nil ⟨d, rfl, q⟩) he
  refine hw σ ρ M H _ W ok sl (fun ds S1 vs ρ1 M1 H1 ⟨d, e1, q⟩ t1 ok1 r1 => ?_) kx tk
  subst e1
  obtain ⟨v, e2, r2⟩ := rps1 r1
  subst e2
  refine ⟨by simp, fun a ha => ⟨a, C, v, rfl, T, hno, upd_same, fun dx hdx ne => ⟨rfl, dx, [(fl, v)], upd_same, by rw [upd_ne ne, upd_same], ?_, ?_⟩⟩⟩
  · rw [upd_ne ne] at hdx
    exact hdx
  · have hdx1 : H1 dx = none := by
      rw [upd_ne ne] at hdx
      exact hdx
    have eH : upd (del (upd (upd (upd H1 a (exo a C none)) dx (exd dx [(fl, v)])) a (exo a C (some dx))) a) dx (.xd [(fl, v)]) = upd H1 dx (.xd [(fl, v)]) := by
      funext b
      by_cases hb1 : b = dx
      · rw [hb1, upd_same, upd_same]
      · rw [upd_ne hb1, upd_ne hb1]
        by_cases hb2 : b = a
        · rw [hb2, del_same, ha]
        · rw [del_ne hb2, upd_ne hb2, upd_ne hb1, upd_ne hb2]
    rw [eH]
    obtain ⟨ok2, t2⟩ := ok1.extra (o := .xd [(fl, v)]) hdx1
    exact kx ⟨C, [(fl, d)]⟩ Γ S1 σ ρ1 _ _ (some dx) q (t1.trans t2) ok2 ((t1.trans t2).slots sl) (.inr ⟨dx, [(fl, v)], rfl, upd_same, rfl, .cons (t2.rp r2) .nil⟩)
/-- Y.__init__(self, ..), Y a class of one's own that has ValueError's -/
theorem pe_ownInit {pl : Sem Bool} {CY : Addr} {yn : Str} {e : Expr} {es : List Expr} {ta : TA} {p1 p2 pos : Pos} (hg : Gl X yn) (hm : X.mg yn = some (.ref CY)) (hga : PySem.W.specialIn X.K (.ref CY) "__getattribute__" = some (some (.builtin "type.__getattribute__"))) (hrd : PySem.W.readsIn X.K CY (.type "type") = true)
    (hfc : PySem.W.findCls X.K (.ref CY) (.type "type") "__init__" = some (.val (.builtin "ValueError.__init__"))) (ha : PA X (e :: es) ta)
    (hcl : eval (.Call (.Attribute (.Name yn p1) "__init__" p2) (e :: es) [] pos) X.env = (do
      let ov ← eval (.Name yn p1) X.env
      standAt p2.atName
      let (f, first) ← holding [ov] (getMethod ov "__init__" pl)
      callWith pos f first (backTo pos (starEach (e :: es) X.env)) (backToKw pos (keywordEach [] X.env))) := by rfl)
    (hdb : (yn == ("__debug__" : Str)) = false := by decide) (he : starEach (e :: es) X.env = (false, eval e X.env) :: starEach es X.env := by rfl) (hpl : (backTo pos (starEach es X.env)).any (·.1) = false := by rfl) :
    PE X (.Call (.Attribute (.Name yn p1) "__init__" p2) (e :: es) [] pos) (tVeI X.K ta) := by
  refine ⟨fun pins s σ H Q I h => ?_⟩
  refine PySem.W.methodCall_KW (ld_glob I hg hm ?_ hdb) hcl
  refine PySem.W.method_cls I.kIn hga (PySem.W.cls_value I.kIn hrd hfc (by decide +kernel) ?_)
  show wpAny _ _ (callWith pos (Value.builtin "ValueError.__init__") [] (backTo pos (starEach (e :: es) X.env)) []) _ _ _
  refine PyProof.Rows.callWith_method1 (thn (ha.run pos pins _ σ H _ (I.tok _) h) fun us s1 ⟨vs, H1, I1, r1, a, C, ws, ev, hl, T, ea, q⟩ => ?_) he hpl
  subst ev
  cases r1 with
  | @cons _ u0 _ ur ra rw' =>
    obtain rfl : u0 = Value.ref a := ra
    exact oinit_ok T I1 ea (by rw [← Paired.length rw', sizeLine_eq]; omega) fun s' J => ⟨.non, H1, J, rfl, q⟩
end
end Ab
set_option Elab.async false
set_option linter.all false
set_option maxRecDepth 100000
set_option maxHeartbeats 4000000
/-! for k in range(n); a, b = x, y; xs * n; text[::-1]. -/
namespace Ab
open PySem PySem.Spec PyProof.Rows L2
def rngD (n : Nat) : List D := (List.range n).map fun (k : Nat) => D.int (k : Nat)
theorem rngD_len (n : Nat) : (rngD n).length = n := by simp [rngD]
theorem rngD_get {n i : Nat} (h : i < n) : (rngD n)[i]? = some (.int (i : Nat)) := by simp [rngD, h]
theorem rngD_inv {n i : Nat} {d : D} (h : (rngD n)[i]? = some d) : d = .int (i : Nat) ∧ i < n := by
  have hi := lt_of_some h
  rw [rngD_len] at hi
  rw [rngD_get hi] at h
  exact ⟨(Option.some.inj h).symm, hi⟩
section
variable {X : Cx} {Γ : List (Option D)} {S : List Cell} {Ξ : XP} {e : Expr} {p pos : Pos}
theorem wi_range {tg : Expr} {Φ : List D → (List Cell → Prop) → List Cell → Prop} (hg : Gl X "range") (hm : X.mg "range" = none) (h : WE X e Γ S (fun d S1 => ∃ n : Nat, d = .int (n : Nat) ∧ n ≤ 100000 ∧ Φ (rngD n) (fun _ => True) S1) Ξ) (hs : starEach [e] X.env = [(false, eval e X.env)] := by rfl) :
    WI X tg (.Call (.Name "range" p) [e] [] pos) Γ S Φ Ξ :=
  ⟨_, pi_range1 hg hm (pa_s [e]) hs, fun σ ρ M H R W ok sl k kx tk => by
    have hw : WA X [e] Γ S (fun ds S1 => ∃ d, ds = [d] ∧ ∃ n : Nat, d = .int (n : Nat) ∧ n ≤ 100000 ∧ Φ (rngD n) (fun _ => True) S1) Ξ := wa_cons (h.imp fun d S1 q => wa_nil ⟨d, rfl, q⟩) hs
    refine hw σ ρ M H _ W ok sl (fun ds S1 vs ρ1 M1 H1 ⟨d, e0, n, e1, hn, q⟩ t1 ok1 r1 => ?_) kx tk
    subst e0
    subst e1
    obtain ⟨v, e2, r2⟩ := rps1 r1
    subst e2
    refine ⟨(n : Nat), by rw [rp_int r2], by omega, by omega, k _ _ _ S1 ρ1 M1 H1 q t1 ok1 ?_⟩
    refine ⟨fun i S' ρ' M' H' t' ok' g' hi => ?_, fun i S' ρ' M' H' x H2 t' ok' g' hi y => ?_, fun S' ρ' M' H' t' ok' g' => ?_⟩
    · rw [rngD_len] at hi
      show i < ((n : Nat) : Int).toNat
      rw [Int.toNat_natCast]
      exact hi
    · rw [rngD_len] at hi
      obtain ⟨eH, ex⟩ : H2 = H' ∧ x = .int (0 + (i : Nat)) := y
      subst eH
      refine ⟨.int (i : Nat), M', rngD_get hi, .refl, ok', ?_⟩
      rw [ex, Int.zero_add]
      exact .int _
    · show ((n : Nat) : Int).toNat ≤ (rngD n).length
      rw [rngD_len, Int.toNat_natCast]
      exact Nat.le_refl _⟩
/-- a, b = x, y -/
theorem ws_par (i j : Nat) {P : Post} {x y : Str} {a b : Expr} {px py pt : Pos} {kt k2 : Nat} {pt2 : Pos} (hc : X.calm = true) (hN : X.N.Nodup) (h : WE X a Γ S (fun d S1 => WE X b Γ S1 (fun d2 S2 => P.nx ((Γ.set i (some d)).set j (some d2)) S2) P.ex) P.ex) (hij : i ≠ j := by decide)
    (hi : X.N[i]? = some x := by rfl) (hj : X.N[j]? = some y := by rfl) (hx : X.env.scope.names.lookup x = some .local := by rfl) (hy : X.env.scope.names.lookup y = some .local := by rfl)
    (hw : swappedStores [.Tuple [.Name x px, .Name y py] kt pt] (.Tuple [a, b] k2 pt2) X.env = pure (some [x, y]) := by rfl)
    (hs : swapsWithSole [.Tuple [.Name x px, .Name y py] kt pt] (.Tuple [a, b] k2 pt2) pos.line X.env = pure false := by rfl) (he : starEach [a, b] X.env = (false, eval a X.env) :: starEach [b] X.env := by rfl) (he2 : starEach [b] X.env = (false, eval b X.env) :: starEach [] X.env := by rfl) :
    WS X (.Assign [.Tuple [.Name x px, .Name y py] kt pt] (.Tuple [a, b] k2 pt2) pos) Γ S P := fun σ ρ M H E ok sl sat => by
  obtain ⟨W, kx, tk⟩ := sat.ex
  have hw2 : WA X [a, b] Γ S (fun ds S2 => ∃ d d2, ds = [d, d2] ∧ P.nx ((Γ.set i (some d)).set j (some d2)) S2) P.ex := wa_cons (h.imp fun d S1 q => wa_cons (q.imp fun d2 S2 q => wa_nil ⟨d, d2, rfl, q⟩) he2) he
  refine PS.s (ps_par hc hN hi hj hij hx hy (pa_s [a, b]) hw hs) (hw2 σ ρ M H _ W ok sl (fun ds S2 vs ρ1 M1 H1 ⟨d, d2, e0, q⟩ t1 ok1 r1 => ?_) kx tk)
  subst e0
  obtain ⟨v, v2, e1, r2, r3⟩ := rps2 r1
  subst e1
  exact ⟨v, v2, rfl, sat.nx _ S2 _ ρ1 M1 H1 q t1 ok1 (((t1.slots sl).set r2 i).set r3 j)⟩
theorem rep_rps {g : Gd} {M : Hp} {ρ : List Addr} {vs : List V} {ds : List D} (r : Rps g M ρ vs ds) : ∀ n : Nat, Rps g M ρ (List.replicate n vs).flatten (List.replicate n ds).flatten
  | 0 => .nil
  | n + 1 => by
    rw [List.replicate_succ, List.replicate_succ, List.flatten_cons, List.flatten_cons]
    exact r.append (rep_rps r n)
/-- xs * n, xs a cell -/
theorem r2_rep {g : Gd} {Φ : D → List Cell → Prop} {l : Nat} {ds : List D} {n : Nat} (hl : S[l]? = some (.lst ds)) (hn : n ≤ 1000) (hz : ds.length ≤ 1000) (h : Φ (.lst (List.replicate n ds).flatten) S) : R2s g rRep (.ptr l) (.int (n : Nat)) S Φ := fun ρ M H vx vy Q ok rx ry kv => by
  obtain ⟨a, e1, hr⟩ := rp_ptr rx
  subst e1
  cases ok.at_ l _ a hl hr with
  | @lst vs _ hH rs =>
    refine ⟨a, (n : Nat), vs, rfl, rp_int ry, hH, by omega, by omega, ?_, fun q hq => ?_⟩
    · rw [rs.length, Int.toNat_natCast, sizeLine_eq]
      have := Nat.mul_le_mul hz hn
      omega
    · rw [Int.toNat_natCast]
      obtain ⟨ok2, t2⟩ := ok.keep (o := .lst (List.replicate n vs).flatten) hq
      exact kv _ S _ ρ _ _ h t2 ok2 (.lst (SqL.of upd_same) (t2.rps (rep_rps rs n)))
/-! ### text[::-1] -/
def revS (z : Str) : Str := ⟨((Builtin.Str.strSliceIndices none none (-1) z.length).filterMap (z.cps[·]?)).toArray⟩
theorem revS_mem {z : Str} {c : Nat} (h : c ∈ (revS z).cps.toList) : c ∈ z.cps.toList := by
  have h : c ∈ ((Builtin.Str.strSliceIndices none none (-1) z.length).filterMap (z.cps[·]?)) := by simpa [revS] using h
  obtain ⟨i, _, e⟩ := List.mem_filterMap.mp h
  have := Array.mem_of_getElem? e
  exact Array.mem_def.mp this
theorem revS_len (z : Str) : (revS z).length ≤ z.length := by
  show ((Builtin.Str.strSliceIndices none none (-1) z.length).filterMap (z.cps[·]?)).toArray.size ≤ _
  rw [List.size_toArray]
  refine Nat.le_trans (List.length_filterMap_le _ _) ?_
  have e : Builtin.Str.strSliceIndices none none (-1) z.length = (List.range z.length).map fun k => z.length - 1 - k := PySem.W.krv_sliceRange z.length
  rw [e, List.length_map, List.length_range]
  exact Nat.le_refl _
def tRevS (te : TE) : TE := fun σ H Q => te σ H fun x H1 => ∃ z : Str, x = .str z ∧ z.length ≤ 1000000 ∧ Q (.str (revS z)) H1
theorem pe_revS {te : TE} {k : Nat} {p1 p2 p3 : Pos} (he : PE X e te) : PE X (.Subscript e (.Slice none none (some (.UnaryOp .USub (.Constant (.int 1) k p1) p2)) p3) pos) (tRevS te) := by
  refine ⟨fun pins s σ H Q I h => ?_⟩
  refine Subscript_ (thn (he.run pins s σ H _ I h) fun v s1 ⟨x, H1, I1, r1, z, ex, hz, q⟩ => ?_)
  subst ex
  obtain ⟨t, rfl⟩ := r1
  have hst : PO X (some (.UnaryOp .USub (.Constant (.int 1) k p1) p2)) (tPart (tUn (rU fun i => .int (-i)) (tC (.int 1)))) := po_some (pe_un un_neg pe_int)
  refine wpAny_Slice ?_
  rw [evalPart_none]
  refine wpAny_pure ?_
  refine wpAny_pure ?_
  refine thn (hst.run pins s1 σ H1 (fun o H4 => o = some (-1) ∧ H4 = H1) I1 ⟨1, rfl, -1, rfl, rfl, rfl⟩) fun vs s4 ⟨o, H4, I4, ps, eo, e4⟩ => ?_
  subst eo e4
  obtain ⟨st, e5, e6⟩ := IsPart.raw ps
  have I5 : Inv X pins σ H4 { s4 with heap := s4.heap.push { cls := .type "slice", data := .fields #[.none, .none, vs] } } := I4.kept (t' := s4.toks) fun b ob q => Heap.get?_push_of_some _ q
  refine tail_any (ops := [.ref s4.heap.objs.size, .str z t]) (typeIs_str _ _ _) F.slot_str_getitem.lookup ?_ (by with_unfolding_all rfl)
  cases st with
  | none => cases e6
  | some q1 =>
    obtain ⟨w, tw⟩ := q1
    cases e6
    cases e5
    refine wpAny_getItem_str_slice (l := none) (u := none) (st := some (-1, tw)) ⟨_, Heap.get?_push_size _ rfl, rfl, rfl⟩ rfl ?_
    have hl : (revS z).length ≤ sizeLine := Nat.le_trans (revS_len z) (by rw [sizeLine_eq]; omega)
    exact ⟨hl, .str _, H4, I5.tok _, ⟨_, rfl⟩, q⟩
theorem we_revS {Φ : D → List Cell → Prop} {k : Nat} {p1 p2 p3 : Pos} (h : WE X e Γ S (fun d S1 => ∃ z : Str, d = .str z ∧ z.length ≤ 1000000 ∧ Φ (.str (revS z)) S1) Ξ) : WE X (.Subscript e (.Slice none none (some (.UnaryOp .USub (.Constant (.int 1) k p1) p2)) p3) pos) Γ S Φ Ξ :=
  fun σ ρ M H Q W ok sl kv kx tk => PE.s (pe_revS (pe_s e)) (h σ ρ M H _ W ok sl (fun d S1 v ρ1 M1 H1 ⟨z, e1, hz, q⟩ t1 ok1 r1 => by
    subst e1
    exact ⟨z, rp_str r1, hz, kv _ S1 _ ρ1 M1 H1 q t1 ok1 (.str _)⟩) kx tk)
end
end Ab
set_option Elab.async false
set_option linter.all false
set_option maxRecDepth 100000
set_option maxHeartbeats 4000000
namespace Wy
open PySem PySem.Spec PyProof.Rows L2 Ab
abbrev Pw : Program := PySem.Challenge.pw_wareyard_k83_whole_registries_that_part
def top (i : Nat) : Stmt := Pw.main.body.getD i (.Pass ⟨0, 0, 0, 0⟩)
abbrev FnP (K : PySem.W.Frag) (x : Str) (st : Stmt) (f : Addr) (fd : FuncData) : Prop := FunD K x x (defArgs st) (defBody st) (defScope st) [] [] f fd
abbrev FnM (K : PySem.W.Frag) (x qual : Str) (st : Stmt) (f : Addr) (fd : FuncData) : Prop := FunD K x qual (defArgs st) (defBody st) (defScope st) [] [] f fd
abbrev m_Forked___init__ : Stmt := inClass (top 9) 0
abbrev s_is_from : Stmt := top 13
abbrev s_is_edition : Stmt := top 14
abbrev s_place_of : Stmt := top 15
abbrev s_show_edition : Stmt := top 16
abbrev s_is_range : Stmt := top 21
abbrev s_show_stretch : Stmt := top 22
abbrev s_show_range : Stmt := top 23
abbrev s_is_name : Stmt := top 29
abbrev s_is_path : Stmt := top 30
abbrev s_is_text : Stmt := top 31
abbrev s_is_step : Stmt := top 32
abbrev s_is_rising : Stmt := top 38
abbrev s_are_extras : Stmt := top 39
abbrev s_is_need : Stmt := top 40
abbrev s_are_rows_of : Stmt := top 41
abbrev s_are_needs : Stmt := top 42
abbrev s_is_extra : Stmt := top 43
abbrev s_is_file : Stmt := top 44
abbrev s_is_ware : Stmt := top 45
abbrev s_show_names : Stmt := top 47
abbrev s_show_need : Stmt := top 48
abbrev s_folded : Stmt := top 49
abbrev s_show_step : Stmt := top 50
abbrev s_show_ware : Stmt := top 51
abbrev s_show_entry : Stmt := top 52
abbrev s_mark : Stmt := top 57
abbrev s_chain_of : Stmt := top 59
abbrev s_wares_of : Stmt := top 60
abbrev s_yanked_of : Stmt := top 61
abbrev s_warnings_of : Stmt := top 62
abbrev m_Registry___init__ : Stmt := inClass (top 63) 0
abbrev m_Registry___len__ : Stmt := inClass (top 63) 1
abbrev m_Registry___eq__ : Stmt := inClass (top 63) 2
abbrev m_Registry_put : Stmt := inClass (top 63) 3
abbrev m_Registry_need_there : Stmt := inClass (top 63) 4
abbrev m_Registry_yank : Stmt := inClass (top 63) 5
abbrev m_Registry_unyank : Stmt := inClass (top 63) 6
abbrev m_Registry_warn : Stmt := inClass (top 63) 7
abbrev m_Registry_entries : Stmt := inClass (top 63) 8
abbrev m_Registry_chain : Stmt := inClass (top 63) 9
abbrev m_Registry_upto : Stmt := inClass (top 63) 10
abbrev m_Registry_wares : Stmt := inClass (top 63) 11
abbrev m_Registry_yanked : Stmt := inClass (top 63) 12
abbrev m_Registry_warnings : Stmt := inClass (top 63) 13
abbrev s_parting : Stmt := top 66
abbrev m_Mirror___init__ : Stmt := inClass (top 67) 0
abbrev m_Mirror___len__ : Stmt := inClass (top 67) 1
abbrev m_Mirror___eq__ : Stmt := inClass (top 67) 2
abbrev m_Mirror_take : Stmt := inClass (top 67) 3
abbrev m_Mirror_entries : Stmt := inClass (top 67) 4
abbrev m_Mirror_chain : Stmt := inClass (top 67) 5
abbrev m_Mirror_wares : Stmt := inClass (top 67) 6
abbrev m_Mirror_yanked : Stmt := inClass (top 67) 7
abbrev m_Mirror_warnings : Stmt := inClass (top 67) 8
abbrev s__law_deck : Stmt := top 69
abbrev s__law_pick : Stmt := top 70
abbrev s__law_edition : Stmt := top 71
abbrev s__law_place : Stmt := top 72
abbrev s__law_at : Stmt := top 73
abbrev s__law_joined : Stmt := top 74
abbrev s__law_span : Stmt := top 75
abbrev s__law_need : Stmt := top 76
abbrev s__law_needs : Stmt := top 77
abbrev s__law_ware : Stmt := top 78
abbrev s__law_one : Stmt := top 79
abbrev s__law_some_names : Stmt := top 80
abbrev s__law_entries : Stmt := top 81
abbrev s__law_fork : Stmt := top 82
abbrev s__law_first_unlike : Stmt := top 83
abbrev s__law_chain : Stmt := top 84
abbrev s__law_apart : Stmt := top 85
abbrev s_law : Stmt := top 86
end Wy
set_option Elab.async false
set_option linter.all false
set_option maxRecDepth 100000
set_option maxHeartbeats 4000000
namespace Wy
open PySem PySem.Spec PyProof.Rows L2 Ab
/-! ### editions and ranges -/
structure Ed where
  a : Nat
  b : Nat
  c : Nat
deriving DecidableEq
abbrev edD (e : Ed) : D := .tup [.int (e.a : Nat), .int (e.b : Nat), .int (e.c : Nat)]
structure Ed.Ok (e : Ed) : Prop where
  a : e.a ≤ 99
  b : e.b ≤ 99
  c : e.c ≤ 99
def Ed.pl (e : Ed) : Nat := e.a * 10000 + e.b * 100 + e.c
abbrev Rg : Type := List (Ed × Ed)
abbrev spD (p : Ed × Ed) : D := .tup [edD p.1, edD p.2]
abbrev rgD (r : Rg) : D := .tup (r.map spD)
structure RgOk (r : Rg) : Prop where
  ed : ∀ p ∈ r, p.1.Ok ∧ p.2.Ok ∧ p.1.pl ≤ p.2.pl
  gap : ∀ (i : Nat) (p q : Ed × Ed), r[i]? = some p → r[i + 1]? = some q → p.2.pl + 1 < q.1.pl
  few : r.length ≤ 20
def firstE : Ed := ⟨0, 0, 0⟩
def lastE : Ed := ⟨99, 99, 99⟩
abbrev firstD : D := .tup [.int 0, .int 0, .int 0]
abbrev lastD : D := .tup [.int 99, .int 99, .int 99]
abbrev anyD : D := .tup [.tup [firstD, lastD]]
def anyR : Rg := [(firstE, lastE)]
theorem any_ok : RgOk anyR := ⟨fun p hp => by
  rw [List.mem_singleton.mp hp]
  exact ⟨⟨by decide, by decide, by decide⟩, ⟨by decide, by decide, by decide⟩, by decide⟩, fun i p q h1 h2 => by
  simp [anyR] at h2, by decide⟩
def numS (n : Nat) : Str := (toString ((n : Nat) : Int) : Str)
def showEd (e : Ed) : Str := ((((Str.empty ++ numS e.a) ++ ".") ++ numS e.b) ++ ".") ++ numS e.c
theorem log_small {n : Nat} (h : n < 2 ^ 62) : ((n : Nat) : Int).natAbs.log2 < 1920 := by
  have e : ((n : Nat) : Int).natAbs = n := rfl
  rw [e]
  by_cases h0 : n = 0
  · subst h0; decide
  · have := (Nat.log2_lt h0).mpr h
    omega
theorem numS_len {n : Nat} (h : n ≤ 99) : (numS n).length ≤ 2 := by
  have h2 : ∀ k : Fin 100, (numS k.val).length ≤ 2 := by decide +kernel
  exact h2 ⟨n, by omega⟩
theorem showEd_len {e : Ed} (h : e.Ok) : (showEd e).length ≤ 8 := by
  have h1 := numS_len h.a
  have h2 := numS_len h.b
  have h3 := numS_len h.c
  have e1 : ("." : Str).length = 1 := rfl
  have e2 : Str.empty.length = 0 := rfl
  simp only [showEd, str_len_append, e1, e2]
  omega
/-! the order of editions -/
theorem ed_eqv (e f : Ed) : PyData.eqv (toPy (edD e)) (toPy (edD f)) = decide (e = f) := by
  obtain ⟨a, b, c⟩ := e
  obtain ⟨a', b', c'⟩ := f
  show (((a : Int) == a') && (((b : Int) == b') && (((c : Int) == c') && true))) = _
  rw [Bool.eq_iff_iff]
  simp only [Bool.and_eq_true, beq_iff_eq, decide_eq_true_eq, Ed.mk.injEq, and_true]
  omega
theorem ed_plain (e : Ed) : okD (edD e) = true := rfl
/-! ### promises -/
def cFrom : Ct := fun ds S Φ Ψ => ∃ i lo hi : Int, ds = [.int i, .int lo, .int hi] ∧ Φ (.bl (decide (lo ≤ i) && decide (i ≤ hi))) S
def cIsEd : Ct := fun ds S Φ Ψ => ∃ e : Ed, e.Ok ∧ ds = [edD e] ∧ ∀ S', Keep S S' → Φ (.bl true) S'
def cPlace : Ct := fun ds S Φ Ψ => ∃ e : Ed, e.Ok ∧ ds = [edD e] ∧ Φ (.int (e.pl : Nat)) S
def cShowEd : Ct := fun ds S Φ Ψ => ∃ e : Ed, e.Ok ∧ ds = [edD e] ∧ Φ (.str (showEd e)) S
section
variable {P : Program} {w : World} {K : PySem.W.Frag} {mg : Str → Option Value} {base : Heap} {f : Addr} {fd : FuncData}
theorem scFrom : FnScope ["thing", "low", "high"] ["thing", "low", "high"] (defScope s_is_from) := ⟨rfl, rfl, rfl, by decide +kernel, rfl, by decide +kernel, by decide +kernel⟩
theorem ok_from (F : FnP K "is_from" s_is_from f fd) (hm : mg "is_from" = some (.ref f)) (gI : mg "isinstance" = none) (gInt : mg "int" = none) (gB : mg "bool" = none) : Has P w K mg base 1 "is_from" ["thing", "low", "high"] cFrom := by
  refine fnH_of ["thing", "low", "high"] F hm cFrom (fun _ _ _ _ _ _ us hl => match us, hl with | [_, _, _], _ => rfl) scFrom (fun ds S Φ Ψ h => by obtain ⟨_, _, _, rfl, _⟩ := h; rfl) ?_
  intro cdv A outer s H E hr ds S Φ Ψ ⟨i, lo, hi, ed, k⟩
  subst ed
  refine wb_cons (ws_ret (we_andV (we_isT rfl gI rfl gInt boot_ty_int (we_name 0 rfl ⟨"int", true, rfl, by decide +kernel, rfl, ?_⟩))))
  refine we_andV (we_notV (we_isT rfl gI rfl gB boot_ty_bool (we_name 0 rfl ⟨"int", false, rfl, by decide +kernel, _, rfl, rfl, ?_⟩)))
  refine we_one (we_chain op_le op_le (we_name 1 rfl (we_name 0 rfl (r2_cmp0 ⟨_, rfl, ifD ?_⟩))))
  by_cases h : lo ≤ i
  · refine .inl ⟨decide_eq_true h, we_name 2 rfl (r2_cmp0 ?_)⟩
    rw [decide_eq_true h] at k
    exact k
  · refine .inr ⟨decide_eq_false h, ?_⟩
    rw [decide_eq_false h] at k
    exact k
abbrev nIsEd : List Str := ["thing", "part"]
theorem scIsEd : FnScope nIsEd ["thing"] (defScope s_is_edition) := ⟨rfl, rfl, rfl, by decide +kernel, rfl, by decide +kernel, by decide +kernel⟩
theorem ok_isEd (F : FnP K "is_edition" s_is_edition f fd) (hm : mg "is_edition" = some (.ref f)) (gI : mg "isinstance" = none) (gT : mg "tuple" = none) (gL : mg "len" = none) (gA : mg "all" = none) (gM : GI mg "MOST_editions" 99) (hF : Has P w K mg base 1 "is_from" ["thing", "low", "high"] cFrom) : Has P w K mg base 2 "is_edition" ["thing"] cIsEd := by
  refine fnH_of nIsEd F hm cIsEd (fun _ _ _ _ _ _ us hl => match us, hl with | [_], _ => rfl) scIsEd (fun ds S Φ Ψ h => by obtain ⟨_, _, rfl, _⟩ := h; rfl) ?_
  intro cdv A outer s H E hr ds S Φ Ψ ⟨e, he, ed, k⟩
  subst ed
  have nd := scIsEd.nd
  refine wb_cons (ws_ret (we_andV (we_isT rfl gI rfl gT boot_ty_tuple (we_name 0 rfl ⟨"tuple", true, rfl, by decide +kernel, rfl, ?_⟩))))
  refine we_andV (we_cmp op_eq rfl (we_len rfl gL (we_name 0 rfl ⟨_, rfl, we_int (r2_eqI ⟨rfl, ?_⟩)⟩)))
  refine we_one (we_all rfl rfl gA ?_)
  refine we_lc (own := [("part", 1)]) (g := gName 1) rfl nd (blkOk_by (N := nIsEd) (sc := defScope s_is_edition) (by decide +kernel)) (fun _ _ _ _ _ => pg_name nd rfl (.inl rfl) (.inr rfl)) ?_
  refine wi_tup (we_name 0 rfl ⟨_, rfl, lc_mapE (fun n : Nat => D.int (n : Nat)) [e.a, e.b, e.c] rfl (fun _ => .bl true) (by simp) (fun _ _ => trivial) (fun i n S' hx kp => ?_) fun S1 k1 => ⟨[true, true, true], rfl, k S1 k1⟩⟩)
  have hn : n ≤ 99 := by
    have hm := List.mem_of_getElem? hx
    have h1 := he.a
    have h2 := he.b
    have h3 := he.c
    simp only [List.mem_cons, List.not_mem_nil, or_false] at hm
    omega
  refine ⟨_, tc_name (by decide), fun s H0 C cl fp => we_callH hF hr (wa_cons (we_name 1 rfl (wa_cons (we_int (wa_cons (we_globI gM (wa_nil ⟨_, _, _, rfl, ?_, kp⟩)))))))⟩
  rw [decide_eq_true (by omega : (0 : Int) ≤ ((n : Nat) : Int)), decide_eq_true (by omega : ((n : Nat) : Int) ≤ 99)]
  rfl
theorem scPlace : FnScope ["edition"] ["edition"] (defScope s_place_of) := ⟨rfl, rfl, rfl, by decide +kernel, rfl, by decide +kernel, by decide +kernel⟩
theorem ok_place (F : FnP K "place_of" s_place_of f fd) (hm : mg "place_of" = some (.ref f)) : Has P w K mg base 1 "place_of" ["edition"] cPlace := by
  refine fnH_of ["edition"] F hm cPlace (fun _ _ _ _ _ _ us hl => match us, hl with | [_], _ => rfl) scPlace (fun ds S Φ Ψ h => by obtain ⟨_, _, rfl, _⟩ := h; rfl) ?_
  intro cdv A outer s H E hr ds S Φ Ψ ⟨e, he, ed, k⟩
  subst ed
  have h1 := he.a
  have h2 := he.b
  refine wb_cons (ws_ret (we_bin op_add (we_bin op_add (we_bin op_mul (we_ix ix_tup (we_name 0 rfl (we_int (r2_ixT rfl (we_int (r2_int (.inl ⟨by omega, by omega⟩) ?_))))))))))
  refine we_bin op_mul (we_ix ix_tup (we_name 0 rfl (we_int (r2_ixT rfl (we_int (r2_int (.inl ⟨by omega, by omega⟩) (r2_int0 ?_)))))))
  refine we_ix ix_tup (we_name 0 rfl (we_int (r2_ixT rfl (r2_int0 ?_))))
  have e1 : ((e.a : Int) * 10000 + (e.b : Int) * 100 + (e.c : Int)) = ((e.pl : Nat) : Int) := by unfold Ed.pl; omega
  rw [e1]
  exact k
theorem scShowEd : FnScope ["edition"] ["edition"] (defScope s_show_edition) := ⟨rfl, rfl, rfl, by decide +kernel, rfl, by decide +kernel, by decide +kernel⟩
theorem ok_showEd (F : FnP K "show_edition" s_show_edition f fd) (hm : mg "show_edition" = some (.ref f)) : Has P w K mg base 1 "show_edition" ["edition"] cShowEd := by
  refine fnH_of ["edition"] F hm cShowEd (fun _ _ _ _ _ _ us hl => match us, hl with | [_], _ => rfl) scShowEd (fun ds S Φ Ψ h => by obtain ⟨_, _, rfl, _⟩ := h; rfl) ?_
  intro cdv A outer s H E hr ds S Φ Ψ ⟨e, he, ed, k⟩
  subst ed
  have h1 := numS_len he.a
  have h2 := numS_len he.b
  have h3 := numS_len he.c
  have g1 := he.a
  have g2 := he.b
  have g3 := he.c
  have e1 : ("." : Str).length = 1 := rfl
  have e2 : Str.empty.length = 0 := rfl
  refine wb_cons (ws_ret (we_fstr ?_))
  refine we_fmt (we_ix ix_tup (we_name 0 rfl (we_int (r2_ixT rfl (.inr ⟨_, rfl, log_small (by omega), ?_⟩)))))
  refine ⟨numS e.a, rfl, by rw [e2]; omega, we_str ⟨_, rfl, by simp only [str_len_append, e1, e2]; omega, ?_⟩⟩
  refine we_fmt (we_ix ix_tup (we_name 0 rfl (we_int (r2_ixT rfl (.inr ⟨_, rfl, log_small (by omega), ?_⟩)))))
  refine ⟨numS e.b, rfl, by simp only [str_len_append, e1, e2]; omega, we_str ⟨_, rfl, by simp only [str_len_append, e1, e2]; omega, ?_⟩⟩
  refine we_fmt (we_ix ix_tup (we_name 0 rfl (we_int (r2_ixT rfl (.inr ⟨_, rfl, log_small (by omega), ?_⟩)))))
  exact ⟨numS e.c, rfl, by simp only [str_len_append, e1, e2]; omega, k⟩
end
end Wy
set_option Elab.async false
set_option linter.all false
set_option maxRecDepth 100000
set_option maxHeartbeats 4000000
namespace Wy
open PySem PySem.Spec PyProof.Rows L2 Ab
/-! ### ranges -/
def cIsRg : Ct := fun ds S Φ Ψ => ∃ r : Rg, RgOk r ∧ ds = [rgD r] ∧ ∀ S', Keep S S' → Φ (.bl true) S'
def showSp (p : Ed × Ed) : Str := if p.1 = p.2 then (Str.empty ++ "=") ++ showEd p.1 else if p.1 = firstE then (Str.empty ++ "<=") ++ showEd p.2 else if p.2 = lastE then (Str.empty ++ ">=") ++ showEd p.1 else (((Str.empty ++ ">=") ++ showEd p.1) ++ " <=") ++ showEd p.2
def showRg (r : Rg) : Str := if r = [] then "none" else if r = anyR then "any" else Txt.join " | " (r.map showSp)
def cShowSp : Ct := fun ds S Φ Ψ => ∃ p : Ed × Ed, p.1.Ok ∧ p.2.Ok ∧ ds = [edD p.1, edD p.2] ∧ ∀ S', Keep S S' → Φ (.str (showSp p)) S'
def cShowRg : Ct := fun ds S Φ Ψ => ∃ r : Rg, RgOk r ∧ ds = [rgD r] ∧ ∀ S', Keep S S' → Φ (.str (showRg r)) S'
theorem showSp_len {p : Ed × Ed} (h1 : p.1.Ok) (h2 : p.2.Ok) : (showSp p).length ≤ 30 := by
  have l1 := showEd_len h1
  have l2 := showEd_len h2
  have e1 : ("=" : Str).length = 1 := rfl
  have e2 : Str.empty.length = 0 := rfl
  have e3 : ("<=" : Str).length = 2 := rfl
  have e4 : (">=" : Str).length = 2 := rfl
  have e5 : (" <=" : Str).length = 3 := rfl
  unfold showSp
  split
  · simp only [str_len_append, e1, e2]; omega
  · split
    · simp only [str_len_append, e3, e2]; omega
    · split
      · simp only [str_len_append, e4, e2]; omega
      · simp only [str_len_append, e4, e5, e2]; omega
theorem showRg_len {r : Rg} (h : RgOk r) : (showRg r).length ≤ 1000 := by
  unfold showRg
  split
  · decide
  · split
    · decide
    · refine Nat.le_trans (txt_join_len _ _) ?_
      have e : (" | " : Str).length = 3 := rfl
      rw [e, List.map_map, List.length_map]
      have h1 := sum_le (fun p => (showSp p).length) 30 r fun p hp => showSp_len (h.ed p hp).1 (h.ed p hp).2.1
      have h2 := h.few
      have : (r.map ((fun x => x.length) ∘ showSp)).sum = (r.map fun p => (showSp p).length).sum := rfl
      rw [this]
      have : r.length * 30 ≤ 20 * 30 := Nat.mul_le_mul_right _ h2
      omega
/-- lexicographic and by places -/
theorem pl_lt {e f : Ed} (he : e.Ok) (hf : f.Ok) (h : e.pl ≤ f.pl) : PySem.W.dataLt (toPy (edD f)) (toPy (edD e)) = false := by
  obtain ⟨a, b, c⟩ := e
  obtain ⟨a', b', c'⟩ := f
  obtain ⟨h1, h2, h3⟩ := he
  obtain ⟨k1, k2, k3⟩ := hf
  simp only [Ed.pl] at h h1 h2 h3 k1 k2 k3
  have e1 : toPy (edD ⟨a, b, c⟩) = .tuple ([(a : Int), b, c].map .int) := rfl
  have e2 : toPy (edD ⟨a', b', c'⟩) = .tuple ([(a' : Int), b', c'].map .int) := rfl
  rw [e1, e2, PySem.W.dataLt_tuple]
  simp only [List.map_cons, List.map_nil]
  by_cases q1 : a = a'
  · subst q1
    rw [PySem.W.dataLt_all_yes (by rfl) (by simp [PyData.eqv])]
    by_cases q2 : b = b'
    · subst q2
      rw [PySem.W.dataLt_all_yes (by rfl) (by simp [PyData.eqv])]
      by_cases q3 : c = c'
      · subst q3
        rw [PySem.W.dataLt_all_yes (by rfl) (by simp [PyData.eqv])]
        rfl
      · rw [PySem.W.dataLt_all_no (by rfl) (by simp [PyData.eqv]; omega), PySem.W.dataLt_int]
        exact decide_eq_false (by omega)
    · rw [PySem.W.dataLt_all_no (by rfl) (by simp [PyData.eqv]; omega), PySem.W.dataLt_int]
      exact decide_eq_false (by omega)
  · rw [PySem.W.dataLt_all_no (by rfl) (by simp [PyData.eqv]; omega), PySem.W.dataLt_int]
    exact decide_eq_false (by omega)
section
variable {P : Program} {w : World} {K : PySem.W.Frag} {mg : Str → Option Value} {base : Heap} {f : Addr} {fd : FuncData}
abbrev nIsRg : List Str := ["thing", "pair", "end", "ahead", "after"]
theorem scIsRg : FnScope nIsRg ["thing"] (defScope s_is_range) := ⟨rfl, rfl, rfl, by decide +kernel, rfl, by decide +kernel, by decide +kernel⟩
theorem ok_isRg (F : FnP K "is_range" s_is_range f fd) (hm : mg "is_range" = some (.ref f)) (gI : mg "isinstance" = none) (gT : mg "tuple" = none) (gL : mg "len" = none) (gA : mg "all" = none) (gZ : mg "zip" = none) (hE : Has P w K mg base 2 "is_edition" ["thing"] cIsEd) (hP : Has P w K mg base 1 "place_of" ["edition"] cPlace) : Has P w K mg base 3 "is_range" ["thing"] cIsRg := by
  refine fnH_of nIsRg F hm cIsRg (fun _ _ _ _ _ _ us hl => match us, hl with | [_], _ => rfl) scIsRg (fun ds S Φ Ψ h => by obtain ⟨_, _, rfl, _⟩ := h; rfl) ?_
  intro cdv A outer s H E hr ds S Φ Ψ ⟨r, hr0, ed, k⟩
  subst ed
  have nd := scIsRg.nd
  have hu : A.units + 3 + 100 < cLine := hu_of hr
  have blk : ∀ {scope : Scope} {own : List (Str × Nat)}, blkC nIsRg (defScope s_is_range) scope own = true → BlkOk (cxOf (L2.CX P w) P w K mg base nIsRg "is_range" (defScope s_is_range) f cdv A outer s H E).N (defScope s_is_range) scope own := fun h => blkOk_by h
  refine wb_cons (ws_ifF (wt_notF (wt_val (we_isT rfl gI rfl gT boot_ty_tuple (we_name 0 rfl ⟨"tuple", true, rfl, by decide +kernel, _, rfl, rfl, ?_⟩)))))
  refine wb_nil (wb_cons (ws_forI (passes_of rfl) rfl (wi_tup (we_name 0 rfl ⟨_, rfl, fun i Γ' S' => (∃ a b, Γ' = [some (rgD r), a, none, none, b]) ∧ Keep S S', ⟨⟨_, _, rfl⟩, .refl⟩, (fun _ _ _ _ _ => trivial), ?_, ?_⟩))))
  · rintro i x Γ' S' hx ⟨⟨a, b, rfl⟩, kp⟩
    rw [List.getElem?_map] at hx
    obtain ⟨p, hp, rfl⟩ := Option.map_eq_some_iff.mp hx
    obtain ⟨h1, h2, h3⟩ := hr0.ed p (List.mem_of_getElem? hp)
    refine wg_name 1 ?_ nd
    refine wb_cons (ws_ifF (wt_ww (ww_orF (wt_notF (wt_val (we_isT rfl gI rfl gT boot_ty_tuple (we_name 1 rfl ⟨"tuple", true, rfl, by decide +kernel, _, rfl, rfl, ?_⟩)))))))
    refine ww_orF (wt_cmp op_ne rfl (we_len rfl gL (we_name 1 rfl ⟨_, rfl, we_int (r2_neI ⟨_, rfl, rfl, ?_⟩)⟩)))
    refine ww_or1F (wt_notF (wt_val (we_all rfl rfl gA ?_)))
    refine we_lc (own := [("end", 2)]) (g := gName 2) rfl nd (blk (by decide +kernel)) (fun _ _ _ _ _ => pg_name nd rfl (.inl rfl) (.inr rfl)) ?_
    refine wi_tup (we_name 1 rfl ⟨_, rfl, lc_mapE edD [p.1, p.2] rfl (fun _ => .bl true) (by simp) (fun _ _ => trivial) (fun i e S' hx kp => ?_) fun S1 k1 => ⟨[true, true], rfl, _, rfl, rfl, rfl, ?_⟩⟩)
    · have he : e.Ok := by
        have hm := List.mem_of_getElem? hx
        simp only [List.mem_cons, List.not_mem_nil, or_false] at hm
        rcases hm with rfl | rfl <;> assumption
      exact ⟨_, tc_name (by decide), fun s H0 C cl fp => we_callH hE hr (wa_cons (we_name 2 rfl (wa_nil ⟨e, he, rfl, fun S2 k2 => ⟨rfl, kp.trans k2⟩⟩)))⟩
    refine wb_nil (wb_cons (ws_ifF (wt_cmp (op_gtD (by show A.units + 3 + 64 < cLine; omega)) rfl (we_ix ix_tup (we_name 1 rfl (we_int (r2_ixT rfl (we_ix ix_tup (we_name 1 rfl (we_int (r2_ixT rfl (r2_dat (d := edD p.1) (e := edD p.2) rfl rfl rfl rfl rfl (by intro z; cases z) ⟨_, rfl, pl_lt h1 h2 h3, ?_⟩))))))))))))
    exact wb_nil (wb_nil ⟨⟨_, _, rfl⟩, kp.trans k1⟩)
  · rintro Γ' S' ⟨⟨a, b, rfl⟩, kp⟩
    refine wb_cons (ws_ret (we_all rfl rfl gA ?_))
    refine we_lc (own := [("ahead", 3), ("after", 4)]) (g := gTup K 2 (gNames [3, 4])) rfl nd (blk (by decide +kernel)) (fun _ _ _ _ _ => pg_tup rfl (pgs_cons (pg_name nd rfl (.inl rfl) (.inr rfl)) (pgs_cons (pg_name nd rfl (.inl rfl) (.inr rfl)) pgs_nil))) ?_
    refine wi_zipT rfl gZ (we_name 0 rfl (we_slice sl_tupA (we_name 0 rfl (we_int ⟨1, rfl, rs_tup ⟨_, _, rfl, rfl, ?_⟩⟩))))
    have ecut : Ab.cutD (r.map spD) (some (1 : Int)) none = (r.drop 1).map spD := by
      have := cut_from (xs := r.map spD) 1
      rw [← List.map_drop] at this
      exact this
    rw [ecut]
    have ez : zipD (r.map spD) ((r.drop 1).map spD) = (r.zip (r.drop 1)).map fun q => .tup [spD q.1, spD q.2] := by
      unfold zipD
      rw [List.zip_map, List.map_map]
      rfl
    rw [ez]
    refine lc_mapE (fun q : (Ed × Ed) × (Ed × Ed) => .tup [spD q.1, spD q.2]) (r.zip (r.drop 1)) rfl (fun _ => .bl true) (by have := hr0.few; simp only [List.length_map, List.length_zip]; omega) (fun _ _ => trivial) (fun i q S2 hx k2 => ?_) fun S2 k2 => ?_
    · obtain ⟨g1, g2⟩ := List.getElem?_zip_eq_some.mp hx
      rw [List.getElem?_drop, Nat.add_comm] at g2
      have hg := hr0.gap i q.1 q.2 g1 g2
      obtain ⟨h1, h2, h3⟩ := hr0.ed q.1 (List.mem_of_getElem? g1)
      obtain ⟨h4, h5, h6⟩ := hr0.ed q.2 (List.mem_of_getElem? g2)
      refine ⟨_, tc_tup (js := [3, 4]) (by decide) rfl, fun s H0 C cl fp => ?_⟩
      refine we_cmp op_gt rfl (we_callH hP (hr.mono (by decide)) (wa_cons (we_ix ix_tup (we_name 4 rfl (we_int (r2_ixT rfl (wa_nil ⟨q.2.1, h4, rfl, ?_⟩)))))))
      refine we_bin op_add (we_callH hP (hr.mono (by decide)) (wa_cons (we_ix ix_tup (we_name 3 rfl (we_int (r2_ixT rfl (wa_nil ⟨q.1.2, h2, rfl, we_int (r2_int0 (r2_cmp0 ⟨?_, k2⟩))⟩)))))))
      rw [decide_eq_true (by omega)]
    · refine ⟨(r.zip (r.drop 1)).map fun _ => true, by
        show _ = _
        rw [List.map_map]
        rfl, ?_⟩
      have : ((r.zip (r.drop 1)).map fun _ => true).all id = true := by simp
      rw [this]
      exact k S2 (kp.trans k2)
theorem scShowSp : FnScope ["low", "high"] ["low", "high"] (defScope s_show_stretch) := ⟨rfl, rfl, rfl, by decide +kernel, rfl, by decide +kernel, by decide +kernel⟩
theorem ok_showSp (F : FnP K "show_stretch" s_show_stretch f fd) (hm : mg "show_stretch" = some (.ref f)) (gF : GD K mg "FIRST" firstD) (gL : GD K mg "LAST" lastD) (hE : Has P w K mg base 1 "show_edition" ["edition"] cShowEd) : Has P w K mg base 2 "show_stretch" ["low", "high"] cShowSp := by
  refine fnH_of ["low", "high"] F hm cShowSp (fun _ _ _ _ _ _ us hl => match us, hl with | [_, _], _ => rfl) scShowSp (fun ds S Φ Ψ h => by obtain ⟨_, _, _, rfl, _⟩ := h; rfl) ?_
  intro cdv A outer s H E hr ds S Φ Ψ ⟨⟨lo, hi⟩, h1, h2, ed, k⟩
  subst ed
  have hu : A.units + 3 + 100 < cLine := hu_of hr
  have k := k S .refl
  unfold showSp at k
  have l1 := showEd_len h1
  have l2 := showEd_len h2
  simp only at l1 l2 k
  have e1 : ("=" : Str).length = 1 := rfl
  have e2 : Str.empty.length = 0 := rfl
  have e3 : ("<=" : Str).length = 2 := rfl
  have e4 : (">=" : Str).length = 2 := rfl
  have e5 : (" <=" : Str).length = 3 := rfl
  refine wb_cons (ws_if (wt_cmp (op_eqD (by show A.units + 3 + 64 < cLine; omega)) rfl (we_name 0 rfl (we_name 1 rfl (r2_eqD (d := edD lo) (e := edD hi) rfl rfl rfl rfl (ed_eqv _ _) ⟨_, rfl, ifD ?_⟩)))))
  by_cases q1 : lo = hi
  · rw [if_pos q1] at k
    refine .inl ⟨decide_eq_true q1, wb_cons (ws_ret (we_fstr (we_str ⟨_, rfl, by rw [e1, e2]; omega, ?_⟩)))⟩
    exact we_fmt (we_callH hE hr (wa_cons (we_name 0 rfl (wa_nil ⟨lo, h1, rfl, .inl ⟨_, rfl, by omega, _, rfl, by simp only [str_len_append, e1, e2]; omega, k⟩⟩))))
  rw [if_neg q1] at k
  refine .inr ⟨decide_eq_false q1, wb_nil (wb_cons (ws_if (wt_cmp (op_eqD (by show A.units + 3 + 64 < cLine; omega)) rfl (we_name 0 rfl (we_globD gF (r2_eqD (d := edD lo) (e := edD firstE) rfl rfl rfl rfl (ed_eqv _ _) ⟨_, rfl, ifD ?_⟩))))))⟩
  by_cases q2 : lo = firstE
  · rw [if_pos q2] at k
    refine .inl ⟨decide_eq_true q2, wb_cons (ws_ret (we_fstr (we_str ⟨_, rfl, by rw [e3, e2]; omega, ?_⟩)))⟩
    exact we_fmt (we_callH hE hr (wa_cons (we_name 1 rfl (wa_nil ⟨hi, h2, rfl, .inl ⟨_, rfl, by omega, _, rfl, by simp only [str_len_append, e3, e2]; omega, k⟩⟩))))
  rw [if_neg q2] at k
  refine .inr ⟨decide_eq_false q2, wb_nil (wb_cons (ws_if (wt_cmp (op_eqD (by show A.units + 3 + 64 < cLine; omega)) rfl (we_name 1 rfl (we_globD gL (r2_eqD (d := edD hi) (e := edD lastE) rfl rfl rfl rfl (ed_eqv _ _) ⟨_, rfl, ifD ?_⟩))))))⟩
  by_cases q3 : hi = lastE
  · rw [if_pos q3] at k
    refine .inl ⟨decide_eq_true q3, wb_cons (ws_ret (we_fstr (we_str ⟨_, rfl, by rw [e4, e2]; omega, ?_⟩)))⟩
    exact we_fmt (we_callH hE hr (wa_cons (we_name 0 rfl (wa_nil ⟨lo, h1, rfl, .inl ⟨_, rfl, by omega, _, rfl, by simp only [str_len_append, e4, e2]; omega, k⟩⟩))))
  rw [if_neg q3] at k
  refine .inr ⟨decide_eq_false q3, wb_nil (wb_cons (ws_ret (we_fstr (we_str ⟨_, rfl, by rw [e4, e2]; omega, ?_⟩))))⟩
  refine we_fmt (we_callH hE hr (wa_cons (we_name 0 rfl (wa_nil ⟨lo, h1, rfl, .inl ⟨_, rfl, by omega, _, rfl, by simp only [str_len_append, e4, e2]; omega, ?_⟩⟩))))
  refine we_str ⟨_, rfl, by simp only [str_len_append, e4, e5, e2]; omega, ?_⟩
  exact we_fmt (we_callH hE hr (wa_cons (we_name 1 rfl (wa_nil ⟨hi, h2, rfl, .inl ⟨_, rfl, by omega, _, rfl, by simp only [str_len_append, e4, e5, e2]; omega, k⟩⟩))))
end
end Wy
set_option Elab.async false
set_option linter.all false
set_option maxRecDepth 100000
set_option maxHeartbeats 4000000
namespace Wy
open PySem PySem.Spec PyProof.Rows L2 Ab
/-! ### equality of written data -/
theorem list_eqv {α : Type} [DecidableEq α] {enc : α → D} (he : ∀ a b, PyData.eqv (toPy (enc a)) (toPy (enc b)) = decide (a = b)) : ∀ l m : List α, PyData.eqvAll (toPys (l.map enc)) (toPys (m.map enc)) = decide (l = m)
  | [], [] => rfl
  | [], _ :: _ => rfl
  | _ :: _, [] => rfl
  | a :: l, b :: m => by
    show (PyData.eqv (toPy (enc a)) (toPy (enc b)) && PyData.eqvAll (toPys (l.map enc)) (toPys (m.map enc))) = _
    rw [he, list_eqv he l m, Bool.eq_iff_iff]
    simp only [Bool.and_eq_true, decide_eq_true_eq, List.cons.injEq]
theorem plain_map {α : Type} {enc : α → D} : ∀ {l : List α}, (∀ x ∈ l, plainD (enc x) = true) → plainDs (l.map enc) = true
  | [], _ => rfl
  | x :: l, h => by
    show (plainD (enc x) && plainDs (l.map enc)) = true
    rw [h x List.mem_cons_self, plain_map fun y hy => h y (List.mem_cons_of_mem _ hy)]
    rfl
theorem dep_map {α : Type} {enc : α → D} {k : Nat} : ∀ {l : List α}, (∀ x ∈ l, depD (enc x) ≤ k) → depDs (l.map enc) ≤ k
  | [], _ => Nat.zero_le _
  | x :: l, h => Nat.max_le.mpr ⟨h x List.mem_cons_self, dep_map fun y hy => h y (List.mem_cons_of_mem _ hy)⟩
theorem okD_of {d : D} (h1 : plainD d = true) (h2 : depD d ≤ 64) : okD d = true := by
  unfold okD
  rw [h1, decide_eq_true h2]
  rfl
theorem sp_eqv (p q : Ed × Ed) : PyData.eqv (toPy (spD p)) (toPy (spD q)) = decide (p = q) := by
  obtain ⟨a, b⟩ := p
  obtain ⟨a', b'⟩ := q
  show (PyData.eqv (toPy (edD a)) (toPy (edD a')) && (PyData.eqv (toPy (edD b)) (toPy (edD b')) && true)) = _
  rw [ed_eqv, ed_eqv, Bool.and_true, Bool.eq_iff_iff]
  simp only [Bool.and_eq_true, decide_eq_true_eq, Prod.mk.injEq]
theorem rg_eqv (r s : Rg) : PyData.eqv (toPy (rgD r)) (toPy (rgD s)) = decide (r = s) := list_eqv sp_eqv r s
theorem rg_plain (r : Rg) : plainD (rgD r) = true := plain_map fun _ _ => rfl
theorem rg_dep (r : Rg) : depD (rgD r) ≤ 3 := Nat.succ_le_succ (dep_map fun _ _ => Nat.le_refl _)
theorem rg_ok (r : Rg) : okD (rgD r) = true := okD_of (rg_plain r) (Nat.le_trans (rg_dep r) (by decide))
/-! ### names, paths, texts -/
def lettersS : Str := "abcdefghijklmnopqrstuvwxyz"
structure NameOk (s : Str) : Prop where
  lo : 1 ≤ s.length
  hi : s.length ≤ 8
  ch : ∀ c ∈ s.cps.toList, c ∈ lettersS.cps.toList
structure PathOk (s : Str) : Prop where
  lo : 1 ≤ s.length
  hi : s.length ≤ 20
  ch : ∀ c ∈ s.cps.toList, c ∈ (lettersS ++ "0123456789./").cps.toList
structure TextOk (s : Str) : Prop where
  hi : s.length ≤ 200
  ch : ∀ c ∈ s.cps.toList, (32 ≤ c ∧ c ≤ 126 ∧ c ≠ 37) ∨ c = 10
theorem strOk_of {s : Str} (h : ∀ c ∈ s.cps.toList, c < 1114112) : PyData.strOk s = true := by
  unfold PyData.strOk
  rw [Array.all_eq_true']
  intro c hc
  exact decide_eq_true (h c (by simpa using hc))
theorem letters_lt : ∀ c ∈ lettersS.cps.toList, 97 ≤ c ∧ c ≤ 122 := by decide +kernel
theorem path_lt : ∀ c ∈ (lettersS ++ "0123456789./").cps.toList, 46 ≤ c ∧ c ≤ 122 := by decide +kernel
theorem NameOk.sok {s : Str} (h : NameOk s) : PyData.strOk s = true := strOk_of fun c hc => by
  have := letters_lt c (h.ch c hc)
  omega
theorem PathOk.sok {s : Str} (h : PathOk s) : PyData.strOk s = true := strOk_of fun c hc => by
  have := path_lt c (h.ch c hc)
  omega
theorem TextOk.sok {s : Str} (h : TextOk s) : PyData.strOk s = true := strOk_of fun c hc => by
  have := h.ch c hc
  omega
def cShowRg2 : Ct := cShowRg
def cIsName : Ct := fun ds S Φ Ψ => ∃ s : Str, NameOk s ∧ ds = [.str s] ∧ ∀ S', Keep S S' → Φ (.bl true) S'
def cIsPath : Ct := fun ds S Φ Ψ => ∃ s : Str, PathOk s ∧ ds = [.str s] ∧ ∀ S', Keep S S' → Φ (.bl true) S'
def cIsText : Ct := fun ds S Φ Ψ => ∃ s : Str, TextOk s ∧ ds = [.str s] ∧ ∀ S', Keep S S' → Φ (.bl true) S'
def cRising : Ct := fun ds S Φ Ψ => ∃ ss : List Str, ss.Pairwise ltS ∧ ss.length ≤ 1000 ∧ (ds = [.tup (ss.map D.str)] ∨ ds = [.lst (ss.map D.str)]) ∧ ∀ S', Keep S S' → Φ (.bl true) S'
theorem chars_eq (s : Str) : charsD s = s.cps.toList.map fun c => D.str ⟨#[c]⟩ := rfl
theorem all_true {α : Type} (l : List α) : (l.map fun _ => true).all id = true := by simp
theorem lt_one (a b : Nat) : decide ((#[a] : Array Nat).toList < (#[b] : Array Nat).toList) = decide (a < b) := by
  show decide ([a] < [b]) = decide (a < b)
  rw [decide_eq_decide]
  constructor
  · intro h
    cases h with
    | rel h => exact h
    | cons h => cases h
  · exact fun h => .rel h
section
variable {P : Program} {w : World} {K : PySem.W.Frag} {mg : Str → Option Value} {base : Heap} {f : Addr} {fd : FuncData}
abbrev nShowRg : List Str := ["one", "low", "high"]
theorem scShowRg : FnScope nShowRg ["one"] (defScope s_show_range) := ⟨rfl, rfl, rfl, by decide +kernel, rfl, by decide +kernel, by decide +kernel⟩
theorem ok_showRg (F : FnP K "show_range" s_show_range f fd) (hm : mg "show_range" = some (.ref f)) (gN : GD K mg "NONE" (.tup [])) (gA : GD K mg "ANY" anyD) (hS : Has P w K mg base 2 "show_stretch" ["low", "high"] cShowSp) : Has P w K mg base 3 "show_range" ["one"] cShowRg := by
  refine fnH_of nShowRg F hm cShowRg (fun _ _ _ _ _ _ us hl => match us, hl with | [_], _ => rfl) scShowRg (fun ds S Φ Ψ h => by obtain ⟨_, _, rfl, _⟩ := h; rfl) ?_
  intro cdv A outer s H E hr ds S Φ Ψ ⟨r, hr0, ed, k⟩
  subst ed
  have nd := scShowRg.nd
  have hu : A.units + 3 + 100 < cLine := hu_of hr
  refine wb_cons (ws_if (wt_cmp (op_eqD (by show A.units + 3 + 64 < cLine; omega)) rfl (we_name 0 rfl (we_globD gN (r2_eqD (d := rgD r) (e := rgD []) rfl rfl (rg_ok r) rfl (rg_eqv r []) ⟨_, rfl, ifD ?_⟩)))))
  by_cases q1 : r = []
  · refine .inl ⟨decide_eq_true q1, wb_cons (ws_ret (we_str ?_))⟩
    have := k S .refl
    rw [showRg, if_pos q1] at this
    exact this
  refine .inr ⟨decide_eq_false q1, wb_nil (wb_cons (ws_if (wt_cmp (op_eqD (by show A.units + 3 + 64 < cLine; omega)) rfl (we_name 0 rfl (we_globD gA (r2_eqD (d := rgD r) (e := rgD anyR) rfl rfl (rg_ok r) rfl (rg_eqv r anyR) ⟨_, rfl, ifD ?_⟩))))))⟩
  by_cases q2 : r = anyR
  · refine .inl ⟨decide_eq_true q2, wb_cons (ws_ret (we_str ?_))⟩
    have := k S .refl
    rw [showRg, if_neg q1, if_pos q2] at this
    exact this
  refine .inr ⟨decide_eq_false q2, wb_nil (wb_cons (ws_ret (we_join (we_str ⟨_, rfl, ?_⟩))))⟩
  refine we_lc (own := [("low", 1), ("high", 2)]) (g := gTup K 2 (gNames [1, 2])) rfl nd (blkOk_by (N := nShowRg) (sc := defScope s_show_range) (by decide +kernel)) (fun _ _ _ _ _ => pg_tup rfl (pgs_cons (pg_name nd rfl (.inl rfl) (.inr rfl)) (pgs_cons (pg_name nd rfl (.inl rfl) (.inr rfl)) pgs_nil))) ?_
  refine wi_tup (we_name 0 rfl ⟨_, rfl, lc_mapE spD r rfl (fun p => .str (showSp p)) (by have := hr0.few; rw [List.length_map]; omega) (fun _ _ => trivial) (fun i p S' hx kp => ?_) fun S1 k1 => ⟨r.map showSp, ?_, ?_, ?_⟩⟩)
  · obtain ⟨h1, h2, _⟩ := hr0.ed p (List.mem_of_getElem? hx)
    exact ⟨_, tc_tup (js := [1, 2]) (by decide) rfl, fun s H0 C cl fp => we_callH hS hr (wa_cons (we_name 1 rfl (wa_cons (we_name 2 rfl (wa_nil ⟨p, h1, h2, rfl, fun S2 k2 => ⟨rfl, kp.trans k2⟩⟩)))))⟩
  · show _ = _
    rw [List.map_map]
    rfl
  · have e : (" | " : Str).length = 3 := rfl
    rw [e, List.map_map, List.length_map]
    have h1 := sum_le (fun p => (showSp p).length) 30 r fun p hp => showSp_len (hr0.ed p hp).1 (hr0.ed p hp).2.1
    have h2 := hr0.few
    have h3 : (r.map ((fun x => x.length) ∘ showSp)).sum = (r.map fun p => (showSp p).length).sum := rfl
    rw [h3]
    have : r.length * 30 ≤ 20 * 30 := Nat.mul_le_mul_right _ h2
    omega
  · have := k S1 k1
    rw [showRg, if_neg q1, if_neg q2] at this
    exact this
abbrev nSign : List Str := ["thing", "sign"]
theorem scName : FnScope nSign ["thing"] (defScope s_is_name) := ⟨rfl, rfl, rfl, by decide +kernel, rfl, by decide +kernel, by decide +kernel⟩
theorem ok_isName (F : FnP K "is_name" s_is_name f fd) (hm : mg "is_name" = some (.ref f)) (gI : mg "isinstance" = none) (gS : mg "str" = none) (gL : mg "len" = none) (gA : mg "all" = none) (gLe : GD K mg "LETTERS" (.str lettersS)) : Has P w K mg base 1 "is_name" ["thing"] cIsName := by
  refine fnH_of nSign F hm cIsName (fun _ _ _ _ _ _ us hl => match us, hl with | [_], _ => rfl) scName (fun ds S Φ Ψ h => by obtain ⟨_, _, rfl, _⟩ := h; rfl) ?_
  intro cdv A outer s H E hr ds S Φ Ψ ⟨x, hx, ed, k⟩
  subst ed
  have nd := scName.nd
  have h1 := hx.lo
  have h2 := hx.hi
  refine wb_cons (ws_ret (we_andV (we_isT rfl gI rfl gS boot_ty_str (we_name 0 rfl ⟨"str", true, rfl, by decide +kernel, rfl, ?_⟩))))
  refine we_andV (we_chainT op_le op_le (we_int (we_lenS rfl gL (we_name 0 rfl ⟨x, rfl, by omega, r2_cmp0 ⟨by rw [decide_eq_true (by omega)], we_int (r2_cmp0 ⟨by rw [decide_eq_true (by omega)], ?_⟩)⟩⟩))))
  refine we_one (we_all rfl rfl gA ?_)
  refine we_lc (own := [("sign", 1)]) (g := gName 1) rfl nd (blkOk_by (N := nSign) (sc := defScope s_is_name) (by decide +kernel)) (fun _ _ _ _ _ => pg_name nd rfl (.inl rfl) (.inr rfl)) ?_
  refine wi_str (we_name 0 rfl ⟨x, rfl, lc_mapE (fun c => D.str ⟨#[c]⟩) x.cps.toList rfl (fun _ => .bl true) (by rw [List.length_map]; show x.cps.size ≤ _; have : x.length = x.cps.size := rfl; omega) (fun _ _ => trivial) (fun i c S' hc kp => ?_) fun S1 k1 => ⟨x.cps.toList.map fun _ => true, ?_, ?_⟩⟩)
  · exact ⟨_, tc_name (by decide), fun s H0 C cl fp => we_cmp op_in_sign rfl (we_name 1 rfl (we_globD gLe (r2_inSg ⟨by rw [decide_eq_true (hx.ch c (List.mem_of_getElem? hc))], kp⟩)))⟩
  · show _ = _
    rw [List.map_map]
    rfl
  · rw [all_true]
    exact k S1 k1
theorem scPath : FnScope nSign ["thing"] (defScope s_is_path) := ⟨rfl, rfl, rfl, by decide +kernel, rfl, by decide +kernel, by decide +kernel⟩
theorem ok_isPath (F : FnP K "is_path" s_is_path f fd) (hm : mg "is_path" = some (.ref f)) (gI : mg "isinstance" = none) (gS : mg "str" = none) (gL : mg "len" = none) (gA : mg "all" = none) (gLe : GD K mg "LETTERS" (.str lettersS)) (gM : GI mg "LONGEST_PATH" 20) : Has P w K mg base 1 "is_path" ["thing"] cIsPath := by
  refine fnH_of nSign F hm cIsPath (fun _ _ _ _ _ _ us hl => match us, hl with | [_], _ => rfl) scPath (fun ds S Φ Ψ h => by obtain ⟨_, _, rfl, _⟩ := h; rfl) ?_
  intro cdv A outer s H E hr ds S Φ Ψ ⟨x, hx, ed, k⟩
  subst ed
  have nd := scPath.nd
  have h1 := hx.lo
  have h2 := hx.hi
  refine wb_cons (ws_ifF (wt_ww (ww_orF (wt_notF (wt_val (we_isT rfl gI rfl gS boot_ty_str (we_name 0 rfl ⟨"str", true, rfl, by decide +kernel, _, rfl, rfl, ?_⟩)))))))
  refine ww_or1F (wt_notF (wt_chainT op_le op_le (we_int (we_lenS rfl gL (we_name 0 rfl ⟨x, rfl, by omega, r2_cmp0 ⟨by rw [decide_eq_true (by omega)], we_globI gM (r2_cmp0 ⟨true, by rw [decide_eq_true (by omega)], rfl, rfl, ?_⟩)⟩⟩)))))
  refine wb_nil (wb_cons (ws_ret (we_all rfl rfl gA ?_)))
  refine we_lc (own := [("sign", 1)]) (g := gName 1) rfl nd (blkOk_by (N := nSign) (sc := defScope s_is_path) (by decide +kernel)) (fun _ _ _ _ _ => pg_name nd rfl (.inl rfl) (.inr rfl)) ?_
  refine wi_str (we_name 0 rfl ⟨x, rfl, lc_mapE (fun c => D.str ⟨#[c]⟩) x.cps.toList rfl (fun _ => .bl true) (by rw [List.length_map]; show x.cps.size ≤ _; have : x.length = x.cps.size := rfl; omega) (fun _ _ => trivial) (fun i c S' hc kp => ?_) fun S1 k1 => ⟨x.cps.toList.map fun _ => true, ?_, ?_⟩⟩)
  · exact ⟨_, tc_name (by decide), fun s H0 C cl fp => we_cmp op_in_sign rfl (we_name 1 rfl (we_bin op_add_str (we_globD gLe (we_str (r2_addS (by decide +kernel) (r2_inSg ⟨by rw [decide_eq_true (hx.ch c (List.mem_of_getElem? hc))], kp⟩))))))⟩
  · show _ = _
    rw [List.map_map]
    rfl
  · rw [all_true]
    exact k S1 k1
theorem scText : FnScope nSign ["thing"] (defScope s_is_text) := ⟨rfl, rfl, rfl, by decide +kernel, rfl, by decide +kernel, by decide +kernel⟩
theorem ok_isText (F : FnP K "is_text" s_is_text f fd) (hm : mg "is_text" = some (.ref f)) (gI : mg "isinstance" = none) (gS : mg "str" = none) (gL : mg "len" = none) (gA : mg "all" = none) (gO : mg "ord" = none) (gM : GI mg "LONGEST_TEXT" 200) : Has P w K mg base 1 "is_text" ["thing"] cIsText := by
  refine fnH_of nSign F hm cIsText (fun _ _ _ _ _ _ us hl => match us, hl with | [_], _ => rfl) scText (fun ds S Φ Ψ h => by obtain ⟨_, _, rfl, _⟩ := h; rfl) ?_
  intro cdv A outer s H E hr ds S Φ Ψ ⟨x, hx, ed, k⟩
  subst ed
  have nd := scText.nd
  have h2 := hx.hi
  refine wb_cons (ws_ifF (wt_ww (ww_orF (wt_notF (wt_val (we_isT rfl gI rfl gS boot_ty_str (we_name 0 rfl ⟨"str", true, rfl, by decide +kernel, _, rfl, rfl, ?_⟩)))))))
  refine ww_or1F (wt_cmp op_gt rfl (we_lenS rfl gL (we_name 0 rfl ⟨x, rfl, by omega, we_globI gM (r2_cmp0 ⟨_, rfl, decide_eq_false (by omega), rfl, ?_⟩)⟩)))
  refine wb_nil (wb_cons (ws_ret (we_all rfl rfl gA ?_)))
  refine we_lc (own := [("sign", 1)]) (g := gName 1) rfl nd (blkOk_by (N := nSign) (sc := defScope s_is_text) (by decide +kernel)) (fun _ _ _ _ _ => pg_name nd rfl (.inl rfl) (.inr rfl)) ?_
  refine wi_str (we_name 0 rfl ⟨x, rfl, lc_mapE (fun c => D.str ⟨#[c]⟩) x.cps.toList rfl (fun _ => .bl true) (by rw [List.length_map]; show x.cps.size ≤ _; have : x.length = x.cps.size := rfl; omega) (fun _ _ => trivial) (fun i c S' hc kp => ?_) fun S1 k1 => ⟨x.cps.toList.map fun _ => true, ?_, ?_⟩⟩)
  · refine ⟨_, tc_name (by decide), fun s H0 C cl fp => we_or ?_⟩
    have e1 : decide ((⟨#[c]⟩ : Str).cps.toList < (" " : Str).cps.toList) = decide (c < 32) := lt_one c 32
    have e2 : decide (("~" : Str).cps.toList < (⟨#[c]⟩ : Str).cps.toList) = decide (126 < c) := lt_one 126 c
    rcases hx.ch c (List.mem_of_getElem? hc) with ⟨l1, l2, l3⟩ | l
    · refine we_andV (we_chainT op_le_str op_le_str (we_str (we_name 1 rfl (r2_leS ⟨by rw [e1, decide_eq_false (by omega)]; rfl, we_str (r2_leS ⟨by rw [e2, decide_eq_false (by omega)]; rfl, ?_⟩)⟩))))
      refine we_one (we_cmp op_ne rfl (we_ord rfl gO (we_name 1 rfl ⟨_, rfl, rfl, we_int (r2_neI ⟨true, ?_, ?_⟩)⟩)))
      · show D.bl (!decide (((c : Nat) : Int) = 37)) = _
        rw [decide_eq_false (by omega)]
        rfl
      · rw [if_pos rfl]
        exact ⟨rfl, kp⟩
    · subst l
      refine we_and (we_chain op_le_str op_le_str (we_str (we_name 1 rfl (r2_leS ⟨false, by rw [e1]; rfl, ?_⟩))))
      rw [if_neg Bool.false_ne_true]
      refine ⟨false, rfl, ?_⟩
      rw [if_neg Bool.false_ne_true]
      refine ⟨false, rfl, ?_⟩
      rw [if_neg Bool.false_ne_true]
      exact we_one (we_cmp op_eq rfl (we_name 1 rfl (we_str (r2_eqS ⟨rfl, kp⟩))))
  · show _ = _
    rw [List.map_map]
    rfl
  · rw [all_true]
    exact k S1 k1
abbrev nRising : List Str := ["things", "one", "other"]
theorem scRising : FnScope nRising ["things"] (defScope s_is_rising) := ⟨rfl, rfl, rfl, by decide +kernel, rfl, by decide +kernel, by decide +kernel⟩
theorem zip_rise {ss : List Str} (h : ss.Pairwise ltS) {i : Nat} {q : Str × Str} (hq : (ss.zip (ss.drop 1))[i]? = some q) : ltS q.1 q.2 := by
  obtain ⟨g1, g2⟩ := List.getElem?_zip_eq_some.mp hq
  rw [List.getElem?_drop] at g2
  have l1 := lt_of_some g1
  have l2 := lt_of_some g2
  rw [List.getElem?_eq_getElem l1] at g1
  rw [List.getElem?_eq_getElem l2] at g2
  have := List.pairwise_iff_getElem.mp h i (1 + i) l1 l2 (by omega)
  rw [Option.some.inj g1, Option.some.inj g2] at this
  exact this
theorem ok_rising (F : FnP K "is_rising" s_is_rising f fd) (hm : mg "is_rising" = some (.ref f)) (gA : mg "all" = none) (gZ : mg "zip" = none) : Has P w K mg base 1 "is_rising" ["things"] cRising := by
  refine fnH_of nRising F hm cRising (fun _ _ _ _ _ _ us hl => match us, hl with | [_], _ => rfl) scRising (fun ds S Φ Ψ h => by obtain ⟨_, _, _, h | h, _⟩ := h <;> subst h <;> rfl) ?_
  intro cdv A outer s H E hr ds S Φ Ψ ⟨ss, hs, few, hd, k⟩
  have nd := scRising.nd
  have ecut : Ab.cutD (ss.map D.str) (some (1 : Int)) none = (ss.drop 1).map D.str := by
    have := cut_from (xs := ss.map D.str) 1
    rw [← List.map_drop] at this
    exact this
  have ez : zipD (ss.map D.str) ((ss.drop 1).map D.str) = (ss.zip (ss.drop 1)).map fun q => .tup [.str q.1, .str q.2] := by
    unfold zipD
    rw [List.zip_map, List.map_map]
    rfl
  have el : ((ss.zip (ss.drop 1)).map fun q : Str × Str => D.tup [.str q.1, .str q.2]).length ≤ 1000000 := by simp only [List.length_map, List.length_zip]; omega
  refine wb_cons (ws_ret (we_all rfl rfl gA ?_))
  refine we_lc (own := [("one", 1), ("other", 2)]) (g := gTup K 2 (gNames [1, 2])) rfl nd (blkOk_by (N := nRising) (sc := defScope s_is_rising) (by decide +kernel)) (fun _ _ _ _ _ => pg_tup rfl (pgs_cons (pg_name nd rfl (.inl rfl) (.inr rfl)) (pgs_cons (pg_name nd rfl (.inl rfl) (.inr rfl)) pgs_nil))) ?_
  have fin : ∀ S1, Keep S S1 → ∃ bs : List Bool, LstD S1 (D.lst ((ss.zip (ss.drop 1)).map fun _ => D.bl true)) (bs.map D.bl) ∧ Φ (.bl (bs.all id)) S1 := fun S1 k1 => by
    refine ⟨(ss.zip (ss.drop 1)).map fun _ => true, ?_, ?_⟩
    · show _ = _
      rw [List.map_map]
      rfl
    · rw [all_true]
      exact k S1 k1
  rcases hd with rfl | rfl
  · refine wi_zipT rfl gZ (we_name 0 rfl (we_slice sl_tupA (we_name 0 rfl (we_int ⟨1, rfl, rs_tup ⟨_, _, rfl, rfl, ?_⟩⟩))))
    rw [ecut, ez]
    refine lc_mapE (fun q : Str × Str => .tup [.str q.1, .str q.2]) (ss.zip (ss.drop 1)) rfl (fun _ => .bl true) el (fun _ _ => trivial) (fun i q S2 hx k2 => ?_) fun S2 k2 => fin S2 k2
    exact ⟨_, tc_tup (js := [1, 2]) (by decide) rfl, fun s H0 C cl fp => we_cmp op_lt_str rfl (we_name 1 rfl (we_name 2 rfl (r2_ltS ⟨by rw [decide_eq_true (zip_rise hs hx)], k2⟩)))⟩
  · refine wi_zipL rfl gZ (we_name 0 rfl (we_slice sl_list (we_name 0 rfl (we_int ⟨1, rfl, rs_lst rfl ⟨_, _, rfl, rfl, ?_⟩⟩))))
    rw [ecut, ez]
    refine lc_mapE (fun q : Str × Str => .tup [.str q.1, .str q.2]) (ss.zip (ss.drop 1)) rfl (fun _ => .bl true) el (fun _ _ => ⟨rfl, rfl⟩) (fun i q S2 hx k2 => ?_) fun S2 k2 => fin S2 k2
    exact ⟨_, tc_tup (js := [1, 2]) (by decide) rfl, fun s H0 C cl fp => we_cmp op_lt_str rfl (we_name 1 rfl (we_name 2 rfl (r2_ltS ⟨by rw [decide_eq_true (zip_rise hs hx)], k2⟩)))⟩
end
end Wy
set_option Elab.async false
set_option linter.all false
set_option maxRecDepth 100000
set_option maxHeartbeats 4000000
namespace Wy
open PySem PySem.Spec PyProof.Rows L2 Ab
/-! ### needs, extras, files, steps, wares -/
structure Nd where
  name : Str
  rg : Rg
  ex : List Str
deriving DecidableEq
abbrev strsD (l : List Str) : D := .tup (l.map D.str)
abbrev ndD (n : Nd) : D := .tup [.str n.name, rgD n.rg, strsD n.ex]
inductive Stp where
  | put (p t : Str) | take (n p q : Str) | join (p : Str) (ps : List Str) | drop (p : Str)
deriving DecidableEq
def stD : Stp → D
  | .put p t => .tup [.str "put", .str p, .str t]
  | .take n p q => .tup [.str "take", .str n, .str p, .str q]
  | .join p ps => .tup [.str "join", .str p, strsD ps]
  | .drop p => .tup [.str "drop", .str p]
abbrev exD (x : Str × List Nd) : D := .tup [.str x.1, .tup (x.2.map ndD)]
abbrev flD (x : Str × Str) : D := .tup [.str x.1, .str x.2]
structure Wa where
  name : Str
  ed : Ed
  needs : List Nd
  extras : List (Str × List Nd)
  files : List (Str × Str)
  steps : List Stp
deriving DecidableEq
abbrev waD (w : Wa) : D := .tup [.str w.name, edD w.ed, .tup (w.needs.map ndD), .tup (w.extras.map exD), .tup (w.files.map flD), .tup (w.steps.map stD)]
structure ExsOk (l : List Str) : Prop where
  few : l.length ≤ 3
  nm : ∀ s ∈ l, NameOk s
  asc : l.Pairwise ltS
structure NdOk (n : Nd) : Prop where
  nm : NameOk n.name
  rg : RgOk n.rg
  ex : ExsOk n.ex
structure NdsOk (l : List Nd) : Prop where
  few : l.length ≤ 5
  nd : ∀ n ∈ l, NdOk n
  asc : (l.map (·.name)).Pairwise ltS
def StOk : Stp → Prop
  | .put p t => PathOk p ∧ TextOk t
  | .take n p q => NameOk n ∧ PathOk p ∧ PathOk q
  | .join p ps => PathOk p ∧ 1 ≤ ps.length ∧ ps.length ≤ 4 ∧ ∀ x ∈ ps, PathOk x
  | .drop p => PathOk p
structure WaOk (w : Wa) : Prop where
  nm : NameOk w.name
  ed : w.ed.Ok
  needs : NdsOk w.needs
  xfew : w.extras.length ≤ 3
  xok : ∀ x ∈ w.extras, NameOk x.1 ∧ NdsOk x.2
  xasc : (w.extras.map (·.1)).Pairwise ltS
  own : ∀ n ∈ w.needs ++ w.extras.flatMap (·.2), n.name ≠ w.name
  ffew : w.files.length ≤ 6
  fok : ∀ x ∈ w.files, PathOk x.1 ∧ TextOk x.2
  fasc : (w.files.map (·.1)).Pairwise ltS
  sfew : w.steps.length ≤ 8
  sok : ∀ x ∈ w.steps, StOk x
/-! plain data -/
theorem strs_plain {l : List Str} (h : ∀ s ∈ l, PyData.strOk s = true) : plainD (strsD l) = true := plain_map h
theorem strs_dep (l : List Str) : depD (strsD l) ≤ 1 := Nat.succ_le_succ (dep_map fun _ _ => Nat.le_refl _)
theorem nd_plain {n : Nd} (h : NdOk n) : plainD (ndD n) = true := by
  show (PyData.strOk n.name && (plainD (rgD n.rg) && (plainD (strsD n.ex) && true))) = true
  rw [h.nm.sok, rg_plain, strs_plain fun s hs => (h.ex.nm s hs).sok]
  rfl
theorem nd_dep (n : Nd) : depD (ndD n) ≤ 5 := by
  have h1 := rg_dep n.rg
  have h2 := strs_dep n.ex
  show max 0 (max (depD (rgD n.rg)) (max (depD (strsD n.ex)) 0)) + 1 ≤ 5
  omega
theorem nds_plain {l : List Nd} (h : ∀ n ∈ l, NdOk n) : plainD (.tup (l.map ndD)) = true := plain_map fun n hn => nd_plain (h n hn)
theorem nds_dep (l : List Nd) : depD (.tup (l.map ndD)) ≤ 6 := Nat.succ_le_succ (dep_map fun n _ => nd_dep n)
theorem sok_put : PyData.strOk "put" = true := by decide +kernel
theorem sok_take : PyData.strOk "take" = true := by decide +kernel
theorem sok_join : PyData.strOk "join" = true := by decide +kernel
theorem sok_drop : PyData.strOk "drop" = true := by decide +kernel
theorem st_plain {s : Stp} (h : StOk s) : plainD (stD s) = true := by
  cases s with
  | put p t =>
    show (PyData.strOk "put" && (PyData.strOk p && (PyData.strOk t && true))) = true
    rw [sok_put, h.1.sok, h.2.sok]
    rfl
  | take n p q =>
    show (PyData.strOk "take" && (PyData.strOk n && (PyData.strOk p && (PyData.strOk q && true)))) = true
    rw [sok_take, h.1.sok, h.2.1.sok, h.2.2.sok]
    rfl
  | join p ps =>
    show (PyData.strOk "join" && (PyData.strOk p && (plainD (strsD ps) && true))) = true
    rw [sok_join, h.1.sok, strs_plain fun s hs => (h.2.2.2 s hs).sok]
    rfl
  | drop p =>
    show (PyData.strOk "drop" && (PyData.strOk p && true)) = true
    rw [sok_drop, PathOk.sok h]
    rfl
theorem st_dep (s : Stp) : depD (stD s) ≤ 2 := by
  cases s with
  | join p ps =>
    have := strs_dep ps
    show max 0 (max 0 (max (depD (strsD ps)) 0)) + 1 ≤ 2
    omega
  | put p t => show (1 : Nat) ≤ 2; omega
  | take n p q => show (1 : Nat) ≤ 2; omega
  | drop p => show (1 : Nat) ≤ 2; omega
theorem wa_plain {w : Wa} (h : WaOk w) : plainD (waD w) = true := by
  show (PyData.strOk w.name && (true && (plainD (.tup (w.needs.map ndD)) && (plainD (.tup (w.extras.map exD)) && (plainD (.tup (w.files.map flD)) && (plainD (.tup (w.steps.map stD)) && true)))))) = true
  have h1 : plainD (.tup (w.extras.map exD)) = true := plain_map fun x hx => by
    show (PyData.strOk x.1 && (plainD (.tup (x.2.map ndD)) && true)) = true
    rw [(h.xok x hx).1.sok, nds_plain (h.xok x hx).2.nd]
    rfl
  have h2 : plainD (.tup (w.files.map flD)) = true := plain_map fun x hx => by
    show (PyData.strOk x.1 && (PyData.strOk x.2 && true)) = true
    rw [(h.fok x hx).1.sok, (h.fok x hx).2.sok]
    rfl
  have h3 : plainD (.tup (w.steps.map stD)) = true := plain_map fun x hx => st_plain (h.sok x hx)
  rw [h.nm.sok, nds_plain h.needs.nd, h1, h2, h3]
  rfl
theorem wa_dep (w : Wa) : depD (waD w) ≤ 10 := by
  have h0 := nds_dep w.needs
  have h1 : depD (.tup (w.extras.map exD)) ≤ 8 := Nat.succ_le_succ (dep_map fun x _ => by
    have := nds_dep x.2
    show max 0 (max (depD (.tup (x.2.map ndD))) 0) + 1 ≤ 7
    omega)
  have h2 : depD (.tup (w.files.map flD)) ≤ 2 := Nat.succ_le_succ (dep_map fun _ _ => Nat.le_refl _)
  have h3 : depD (.tup (w.steps.map stD)) ≤ 3 := Nat.succ_le_succ (dep_map fun x _ => st_dep x)
  show max 0 (max 1 (max (depD (.tup (w.needs.map ndD))) (max (depD (.tup (w.extras.map exD))) (max (depD (.tup (w.files.map flD))) (max (depD (.tup (w.steps.map stD))) 0))))) + 1 ≤ 10
  omega
/-! ### promises -/
def cExs : Ct := fun ds S Φ Ψ => ∃ l : List Str, ExsOk l ∧ ds = [strsD l] ∧ ∀ S', Keep S S' → Φ (.bl true) S'
def cIsNeed : Ct := fun ds S Φ Ψ => ∃ n : Nd, NdOk n ∧ ds = [ndD n] ∧ ∀ S', Keep S S' → Φ (.bl true) S'
def cRowsOf (G : Addr → Ct → Prop) : Ct := fun ds S Φ Ψ => ∃ (α : Type) (enc : α → D) (key : α → Str) (xs : List α) (most : Nat) (fa : Addr) (c : Ct), G fa c ∧ xs.length ≤ most ∧ most ≤ 100 ∧ ds = [.tup (xs.map enc), .int (most : Nat), .ref fa] ∧
  (∀ x ∈ xs, ∃ tl, enc x = .tup (.str (key x) :: tl)) ∧ (∀ x ∈ xs, ∀ S' Φ' Ψ', (∀ S'', Keep S' S'' → Φ' (.bl true) S'') → c [enc x] S' Φ' Ψ') ∧ (xs.map key).Pairwise ltS ∧ ∀ S', Keep S S' → Φ (.bl true) S'
def cNeeds : Ct := fun ds S Φ Ψ => ∃ l : List Nd, NdsOk l ∧ ds = [.tup (l.map ndD)] ∧ ∀ S', Keep S S' → Φ (.bl true) S'
def cIsExtra : Ct := fun ds S Φ Ψ => ∃ x : Str × List Nd, NameOk x.1 ∧ NdsOk x.2 ∧ ds = [exD x] ∧ ∀ S', Keep S S' → Φ (.bl true) S'
def cIsFile : Ct := fun ds S Φ Ψ => ∃ x : Str × Str, PathOk x.1 ∧ TextOk x.2 ∧ ds = [flD x] ∧ ∀ S', Keep S S' → Φ (.bl true) S'
def cIsStep : Ct := fun ds S Φ Ψ => ∃ x : Stp, StOk x ∧ ds = [stD x] ∧ ∀ S', Keep S S' → Φ (.bl true) S'
def cIsWare : Ct := fun ds S Φ Ψ => ∃ q : Wa, WaOk q ∧ ds = [waD q] ∧ ∀ S', Keep S S' → Φ (.bl true) S'
theorem trues {α : Type} (l : List α) : (l.map fun _ => D.bl true) = (l.map fun _ => true).map D.bl := by rw [List.map_map]; rfl
section
variable {P : Program} {w : World} {K : PySem.W.Frag} {mg : Str → Option Value} {base : Heap} {f : Addr} {fd : FuncData}
abbrev nExs : List Str := ["thing", "one"]
theorem scExs : FnScope nExs ["thing"] (defScope s_are_extras) := ⟨rfl, rfl, rfl, by decide +kernel, rfl, by decide +kernel, by decide +kernel⟩
theorem ok_exs (F : FnP K "are_extras" s_are_extras f fd) (hm : mg "are_extras" = some (.ref f)) (gI : mg "isinstance" = none) (gT : mg "tuple" = none) (gL : mg "len" = none) (gA : mg "all" = none) (gM : GI mg "MOST_EXTRAS" 3) (hN : Has P w K mg base 1 "is_name" ["thing"] cIsName) (hR : Has P w K mg base 1 "is_rising" ["things"] cRising) : Has P w K mg base 2 "are_extras" ["thing"] cExs := by
  refine fnH_of nExs F hm cExs (fun _ _ _ _ _ _ us hl => match us, hl with | [_], _ => rfl) scExs (fun ds S Φ Ψ h => by obtain ⟨_, _, rfl, _⟩ := h; rfl) ?_
  intro cdv A outer s H E hr ds S Φ Ψ ⟨l, hl, ed, k⟩
  subst ed
  have nd := scExs.nd
  have few := hl.few
  refine wb_cons (ws_ifF (wt_ww (ww_orF (wt_notF (wt_val (we_isT rfl gI rfl gT boot_ty_tuple (we_name 0 rfl ⟨"tuple", true, rfl, by decide +kernel, _, rfl, rfl, ?_⟩)))))))
  refine ww_orF (wt_cmp op_gt rfl (we_len rfl gL (we_name 0 rfl ⟨_, rfl, we_globI gM (r2_cmp0 ⟨_, rfl, decide_eq_false (by rw [List.length_map]; omega), ?_⟩)⟩)))
  refine ww_or1F (wt_notF (wt_val (we_all rfl rfl gA ?_)))
  refine we_lc (own := [("one", 1)]) (g := gName 1) rfl nd (blkOk_by (N := nExs) (sc := defScope s_are_extras) (by decide +kernel)) (fun _ _ _ _ _ => pg_name nd rfl (.inl rfl) (.inr rfl)) ?_
  refine wi_tup (we_name 0 rfl ⟨_, rfl, lc_mapE D.str l rfl (fun _ => .bl true) (by rw [List.length_map]; omega) (fun _ _ => trivial) (fun i x S' hx kp => ?_) fun S1 k1 => ⟨l.map fun _ => true, trues l, _, rfl, all_true l, rfl, ?_⟩⟩)
  · exact ⟨_, tc_name (by decide), fun s H0 C cl fp => we_callH hN hr (wa_cons (we_name 1 rfl (wa_nil ⟨x, hl.nm x (List.mem_of_getElem? hx), rfl, fun S2 k2 => ⟨rfl, kp.trans k2⟩⟩)))⟩
  exact wb_nil (wb_cons (ws_ret (we_callH hR hr (wa_cons (we_name 0 rfl (wa_nil ⟨l, hl.asc, by omega, .inl rfl, fun S2 k2 => k S2 (k1.trans k2)⟩))))))
theorem scNeed : FnScope ["thing"] ["thing"] (defScope s_is_need) := ⟨rfl, rfl, rfl, by decide +kernel, rfl, by decide +kernel, by decide +kernel⟩
theorem ok_isNeed (F : FnP K "is_need" s_is_need f fd) (hm : mg "is_need" = some (.ref f)) (gI : mg "isinstance" = none) (gT : mg "tuple" = none) (gL : mg "len" = none) (hN : Has P w K mg base 1 "is_name" ["thing"] cIsName) (hR : Has P w K mg base 3 "is_range" ["thing"] cIsRg) (hE : Has P w K mg base 2 "are_extras" ["thing"] cExs) : Has P w K mg base 4 "is_need" ["thing"] cIsNeed := by
  refine fnH_of ["thing"] F hm cIsNeed (fun _ _ _ _ _ _ us hl => match us, hl with | [_], _ => rfl) scNeed (fun ds S Φ Ψ h => by obtain ⟨_, _, rfl, _⟩ := h; rfl) ?_
  intro cdv A outer s H E hr ds S Φ Ψ ⟨n, hn, ed, k⟩
  subst ed
  refine wb_cons (ws_ifF (wt_ww (ww_orF (wt_notF (wt_val (we_isT rfl gI rfl gT boot_ty_tuple (we_name 0 rfl ⟨"tuple", true, rfl, by decide +kernel, _, rfl, rfl, ?_⟩)))))))
  refine ww_orF (wt_cmp op_ne rfl (we_len rfl gL (we_name 0 rfl ⟨_, rfl, we_int (r2_neI ⟨_, rfl, rfl, ?_⟩)⟩)))
  refine ww_or1F (wt_notF (wt_val (we_callH hN (hr.mono (by decide)) (wa_cons (we_ix ix_tup (we_name 0 rfl (we_int (r2_ixT rfl (wa_nil ⟨_, hn.nm, rfl, fun S1 k1 => ⟨_, rfl, rfl, rfl, ?_⟩⟩)))))))))
  refine wb_nil (wb_cons (ws_ret (we_andV (we_callH hR hr (wa_cons (we_ix ix_tup (we_name 0 rfl (we_int (r2_ixT rfl (wa_nil ⟨_, hn.rg, rfl, fun S2 k2 => ⟨rfl, ?_⟩⟩))))))))))
  exact we_one (we_callH hE (hr.mono (by decide)) (wa_cons (we_ix ix_tup (we_name 0 rfl (we_int (r2_ixT rfl (wa_nil ⟨_, hn.ex, rfl, fun S3 k3 => k S3 (k1.trans (k2.trans k3))⟩)))))))
abbrev nRowsOf : List Str := ["thing", "most", "good", "one"]
theorem scRowsOf : FnScope nRowsOf ["thing", "most", "good"] (defScope s_are_rows_of) := ⟨rfl, rfl, rfl, by decide +kernel, rfl, by decide +kernel, by decide +kernel⟩
theorem ok_rowsOf {kk : Nat} (hk : 1 ≤ kk) (F : FnP K "are_rows_of" s_are_rows_of f fd) (hm : mg "are_rows_of" = some (.ref f)) (gI : mg "isinstance" = none) (gT : mg "tuple" = none) (gL : mg "len" = none) (gA : mg "all" = none) (hR : Has P w K mg base 1 "is_rising" ["things"] cRising) : Has P w K mg base (kk + 1) "are_rows_of" ["thing", "most", "good"] (cRowsOf fun a c => HasA P w K mg base kk a ["thing"] c) := by
  refine fnH_of nRowsOf F hm _ (fun _ _ _ _ _ _ us hl => match us, hl with | [_, _, _], _ => rfl) scRowsOf (fun ds S Φ Ψ h => by obtain ⟨_, _, _, _, _, _, _, _, _, _, rfl, _⟩ := h; rfl) ?_
  intro cdv A outer s H E hr ds S Φ Ψ ⟨α, enc, key, xs, most, fa, c, hc, few, few2, ed, hkey, hgood, asc, k⟩
  subst ed
  have nd := scRowsOf.nd
  have blk : ∀ {scope : Scope} {own : List (Str × Nat)}, blkC nRowsOf (defScope s_are_rows_of) scope own = true → BlkOk (cxOf (L2.CX P w) P w K mg base nRowsOf "are_rows_of" (defScope s_are_rows_of) f cdv A outer s H E).N (defScope s_are_rows_of) scope own := fun h => blkOk_by h
  refine wb_cons (ws_ifF (wt_ww (ww_orF (wt_notF (wt_val (we_isT rfl gI rfl gT boot_ty_tuple (we_name 0 rfl ⟨"tuple", true, rfl, by decide +kernel, _, rfl, rfl, ?_⟩)))))))
  refine ww_orF (wt_cmp op_gt rfl (we_len rfl gL (we_name 0 rfl ⟨_, rfl, we_name 1 rfl (r2_cmp0 ⟨_, rfl, decide_eq_false (by rw [List.length_map]; omega), ?_⟩)⟩)))
  refine ww_or1F (wt_notF (wt_val (we_all rfl rfl gA ?_)))
  refine we_lc (own := [("one", 3)]) (g := gName 3) rfl nd (blk (by decide +kernel)) (fun _ _ _ _ _ => pg_name nd rfl (.inl rfl) (.inr rfl)) ?_
  refine wi_tup (we_name 0 rfl ⟨_, rfl, lc_mapE enc xs rfl (fun _ => .bl true) (by rw [List.length_map]; omega) (fun _ _ => trivial) (fun i x S' hx kp => ?_) fun S1 k1 => ⟨xs.map fun _ => true, trues xs, _, rfl, all_true xs, rfl, ?_⟩⟩)
  · refine ⟨_, tc_name (by decide), fun s H0 C cl fp => we_callV 2 hc hr rfl (wa_cons (we_name 3 rfl (wa_nil ?_)))⟩
    exact hgood x (List.mem_of_getElem? hx) S' _ _ fun S2 k2 => ⟨rfl, kp.trans k2⟩
  refine wb_nil (wb_cons (ws_ret (we_callH hR (hr.mono hk) (wa_cons ?_))))
  refine we_lc (own := [("one", 3)]) (g := gName 3) rfl nd (blk (by decide +kernel)) (fun _ _ _ _ _ => pg_name nd rfl (.inl rfl) (.inr rfl)) ?_
  refine wi_tup (we_name 0 rfl ⟨_, rfl, lc_mapE enc xs rfl (fun x => .str (key x)) (by rw [List.length_map]; omega) (fun _ _ => trivial) (fun i x S' hx kp => ?_) fun S2 k2 => ?_⟩)
  · obtain ⟨tl, etl⟩ := hkey x (List.mem_of_getElem? hx)
    rw [etl]
    exact ⟨_, tc_name (by decide), fun s H0 C cl fp => we_ix ix_tup (we_name 3 rfl (we_int (r2_ixT (atI_nat (j := 0) rfl) ⟨rfl, kp⟩)))⟩
  · refine wa_nil ⟨xs.map key, asc, by rw [List.length_map]; omega, .inr ?_, fun S3 k3 => k S3 (k1.trans (k2.trans k3))⟩
    rw [List.map_map]
    rfl
theorem scNeeds : FnScope ["thing"] ["thing"] (defScope s_are_needs) := ⟨rfl, rfl, rfl, by decide +kernel, rfl, by decide +kernel, by decide +kernel⟩
theorem we_globF {X : Cx} {Γ : List (Option D)} {S : List Cell} {Φ : D → List Cell → Prop} {Ξ : XP} {x : Str} {a : Addr} {pos : Pos} (hm : X.mg x = some (.ref a)) (h : Φ (.ref a) S) (hg : Gl X x := by rfl) (hd : (x == ("__debug__" : Str)) = false := by decide) : WE X (.Name x pos) Γ S Φ Ξ :=
  we_glob (v := .ref a) hg hm rfl (fun M ρ => .ref a) h hd
theorem ok_needs (F : FnP K "are_needs" s_are_needs f fd) (hm : mg "are_needs" = some (.ref f)) (gM : GI mg "MOST_NEEDS" 5) (hN : Has P w K mg base 4 "is_need" ["thing"] cIsNeed) (hR : Has P w K mg base 5 "are_rows_of" ["thing", "most", "good"] (cRowsOf fun a c => HasA P w K mg base 4 a ["thing"] c)) : Has P w K mg base 6 "are_needs" ["thing"] cNeeds := by
  refine fnH_of ["thing"] F hm cNeeds (fun _ _ _ _ _ _ us hl => match us, hl with | [_], _ => rfl) scNeeds (fun ds S Φ Ψ h => by obtain ⟨_, _, rfl, _⟩ := h; rfl) ?_
  intro cdv A outer s H E hr ds S Φ Ψ ⟨l, hl, ed, k⟩
  subst ed
  obtain ⟨fa, ga, ha⟩ := hN.at_
  exact wb_cons (ws_ret (we_callH hR hr (wa_cons (we_name 0 rfl (wa_cons (we_globI gM (wa_cons (we_globF ga (wa_nil ⟨Nd, ndD, (·.name), l, 5, fa, cIsNeed, ha, hl.few, by decide, rfl, fun x _ => ⟨_, rfl⟩, fun x hx S' Φ' Ψ' h => ⟨x, hl.nd x hx, rfl, h⟩, hl.asc, k⟩)))))))))
theorem scExtra : FnScope ["thing"] ["thing"] (defScope s_is_extra) := ⟨rfl, rfl, rfl, by decide +kernel, rfl, by decide +kernel, by decide +kernel⟩
theorem ok_isExtra (F : FnP K "is_extra" s_is_extra f fd) (hm : mg "is_extra" = some (.ref f)) (gI : mg "isinstance" = none) (gT : mg "tuple" = none) (gL : mg "len" = none) (hN : Has P w K mg base 1 "is_name" ["thing"] cIsName) (hR : Has P w K mg base 6 "are_needs" ["thing"] cNeeds) : Has P w K mg base 7 "is_extra" ["thing"] cIsExtra := by
  refine fnH_of ["thing"] F hm cIsExtra (fun _ _ _ _ _ _ us hl => match us, hl with | [_], _ => rfl) scExtra (fun ds S Φ Ψ h => by obtain ⟨_, _, _, rfl, _⟩ := h; rfl) ?_
  intro cdv A outer s H E hr ds S Φ Ψ ⟨x, h1, h2, ed, k⟩
  subst ed
  refine wb_cons (ws_ret (we_andV (we_isT rfl gI rfl gT boot_ty_tuple (we_name 0 rfl ⟨"tuple", true, rfl, by decide +kernel, rfl, ?_⟩))))
  refine we_andV (we_cmp op_eq rfl (we_len rfl gL (we_name 0 rfl ⟨_, rfl, we_int (r2_eqI ⟨rfl, ?_⟩)⟩)))
  refine we_andV (we_callH hN (hr.mono (by decide)) (wa_cons (we_ix ix_tup (we_name 0 rfl (we_int (r2_ixT rfl (wa_nil ⟨_, h1, rfl, fun S1 k1 => ⟨rfl, ?_⟩⟩)))))))
  exact we_one (we_callH hR hr (wa_cons (we_ix ix_tup (we_name 0 rfl (we_int (r2_ixT rfl (wa_nil ⟨_, h2, rfl, fun S2 k2 => k S2 (k1.trans k2)⟩)))))))
theorem scFile : FnScope ["thing"] ["thing"] (defScope s_is_file) := ⟨rfl, rfl, rfl, by decide +kernel, rfl, by decide +kernel, by decide +kernel⟩
theorem ok_isFile (F : FnP K "is_file" s_is_file f fd) (hm : mg "is_file" = some (.ref f)) (gI : mg "isinstance" = none) (gT : mg "tuple" = none) (gL : mg "len" = none) (hP : Has P w K mg base 1 "is_path" ["thing"] cIsPath) (hX : Has P w K mg base 1 "is_text" ["thing"] cIsText) : Has P w K mg base 2 "is_file" ["thing"] cIsFile := by
  refine fnH_of ["thing"] F hm cIsFile (fun _ _ _ _ _ _ us hl => match us, hl with | [_], _ => rfl) scFile (fun ds S Φ Ψ h => by obtain ⟨_, _, _, rfl, _⟩ := h; rfl) ?_
  intro cdv A outer s H E hr ds S Φ Ψ ⟨x, h1, h2, ed, k⟩
  subst ed
  refine wb_cons (ws_ret (we_andV (we_isT rfl gI rfl gT boot_ty_tuple (we_name 0 rfl ⟨"tuple", true, rfl, by decide +kernel, rfl, ?_⟩))))
  refine we_andV (we_cmp op_eq rfl (we_len rfl gL (we_name 0 rfl ⟨_, rfl, we_int (r2_eqI ⟨rfl, ?_⟩)⟩)))
  refine we_andV (we_callH hP hr (wa_cons (we_ix ix_tup (we_name 0 rfl (we_int (r2_ixT rfl (wa_nil ⟨_, h1, rfl, fun S1 k1 => ⟨rfl, ?_⟩⟩)))))))
  exact we_one (we_callH hX hr (wa_cons (we_ix ix_tup (we_name 0 rfl (we_int (r2_ixT rfl (wa_nil ⟨_, h2, rfl, fun S2 k2 => k S2 (k1.trans k2)⟩)))))))
end
end Wy
set_option Elab.async false
set_option linter.all false
set_option maxRecDepth 100000
set_option maxHeartbeats 4000000
namespace Wy
open PySem PySem.Spec PyProof.Rows L2 Ab
def sizesT : List (Str × Int) := [("put", 3), ("take", 4), ("join", 3), ("drop", 2)]
theorem st_ne (x : Stp) : PyData.eqv (toPy (stD x)) (toPy (.tup [])) = false := by cases x <;> rfl
section
variable {P : Program} {w : World} {K : PySem.W.Frag} {mg : Str → Option Value} {base : Heap} {f : Addr} {fd : FuncData}
abbrev nIsStep : List Str := ["thing", "head", "parts", "one"]
theorem scIsStep : FnScope nIsStep ["thing"] (defScope s_is_step) := ⟨rfl, rfl, rfl, by decide +kernel, rfl, by decide +kernel, by decide +kernel⟩
theorem ok_isStep (F : FnP K "is_step" s_is_step f fd) (hm : mg "is_step" = some (.ref f)) (gI : mg "isinstance" = none) (gT : mg "tuple" = none) (gS : mg "str" = none) (gL : mg "len" = none) (gA : mg "all" = none) (gZ : KTabI K w mg "SIZES" sizesT) (hN : Has P w K mg base 1 "is_name" ["thing"] cIsName) (hP : Has P w K mg base 1 "is_path" ["thing"] cIsPath) (hX : Has P w K mg base 1 "is_text" ["thing"] cIsText) : Has P w K mg base 2 "is_step" ["thing"] cIsStep := by
  refine fnH_of nIsStep F hm cIsStep (fun _ _ _ _ _ _ us hl => match us, hl with | [_], _ => rfl) scIsStep (fun ds S Φ Ψ h => by obtain ⟨_, _, rfl, _⟩ := h; rfl) ?_
  intro cdv A outer s H E hr ds S Φ Ψ ⟨x, hx, ed, k⟩
  subst ed
  have nd := scIsStep.nd
  have hu : A.units + 3 + 100 < cLine := hu_of hr
  have hne := st_ne x
  have hok : okD (stD x) = true := okD_of (st_plain hx) (Nat.le_trans (st_dep x) (by decide))
  cases x with
  | put p t =>
    obtain ⟨h1, h2⟩ := hx
    refine wb_cons (ws_ifF (wt_ww (ww_orF (wt_notF (wt_val (we_isT rfl gI rfl gT boot_ty_tuple (we_name 0 rfl ⟨"tuple", true, rfl, by decide +kernel, _, rfl, rfl, ?_⟩)))))))
    refine ww_orF (wt_cmp (op_eqD (by show A.units + 3 + 64 < cLine; omega)) rfl (we_name 0 rfl (we_tup (wa_nil ⟨by simp, r2_eqD (e := .tup []) rfl rfl hok rfl hne ⟨_, rfl, rfl, ?_⟩⟩))))
    refine ww_or1F (wt_notF (wt_val (we_isT rfl gI rfl gS boot_ty_str (we_ix ix_tup (we_name 0 rfl (we_int (r2_ixT rfl ⟨"str", true, rfl, by decide +kernel, _, rfl, rfl, rfl, ?_⟩)))))))
    refine wb_nil (wb_cons (ws_asg (we_name 0 rfl (wg_starT (n := 2) (j := 1) rfl (by decide) (by simp) (by simp) (wgs_cons (wg_name 1 (wgs_star (wg_name 2 (wgs_nil ?_) nd)) nd))))))
    refine wb_cons (ws_ifF (wt_cmp op_ne rfl (we_kgetI gZ (we_name 1 rfl ⟨_, rfl, we_int ⟨3, by decide +kernel, we_len rfl gL (we_name 0 rfl ⟨_, rfl, r2_neI ⟨_, rfl, rfl, ?_⟩⟩)⟩⟩))))
    refine wb_nil (wb_cons (ws_ifT (wt_cmp op_eq rfl (we_name 1 rfl (we_str (r2_eqS ⟨_, rfl, by decide +kernel, ?_⟩))))))
    refine wb_cons (ws_ret (we_andV (we_callH hP hr (wa_cons (we_ix ix_list (we_name 2 rfl (we_int (r2_ixL (ds := [.str p, .str t]) (d := .str p) rfl rfl (wa_nil ⟨_, h1, rfl, fun S1 k1 => ⟨rfl, ?_⟩⟩)))))))))
    exact we_one (we_callH hX hr (wa_cons (we_ix ix_list (we_name 2 rfl (we_int (r2_ixL (ds := [.str p, .str t]) (d := .str t) rfl rfl (wa_nil ⟨_, h2, rfl, fun S2 k2 => k S2 (k1.trans k2)⟩)))))))
  | take n p q =>
    obtain ⟨h1, h2, h3⟩ := hx
    refine wb_cons (ws_ifF (wt_ww (ww_orF (wt_notF (wt_val (we_isT rfl gI rfl gT boot_ty_tuple (we_name 0 rfl ⟨"tuple", true, rfl, by decide +kernel, _, rfl, rfl, ?_⟩)))))))
    refine ww_orF (wt_cmp (op_eqD (by show A.units + 3 + 64 < cLine; omega)) rfl (we_name 0 rfl (we_tup (wa_nil ⟨by simp, r2_eqD (e := .tup []) rfl rfl hok rfl hne ⟨_, rfl, rfl, ?_⟩⟩))))
    refine ww_or1F (wt_notF (wt_val (we_isT rfl gI rfl gS boot_ty_str (we_ix ix_tup (we_name 0 rfl (we_int (r2_ixT rfl ⟨"str", true, rfl, by decide +kernel, _, rfl, rfl, rfl, ?_⟩)))))))
    refine wb_nil (wb_cons (ws_asg (we_name 0 rfl (wg_starT (n := 2) (j := 1) rfl (by decide) (by simp) (by simp) (wgs_cons (wg_name 1 (wgs_star (wg_name 2 (wgs_nil ?_) nd)) nd))))))
    refine wb_cons (ws_ifF (wt_cmp op_ne rfl (we_kgetI gZ (we_name 1 rfl ⟨_, rfl, we_int ⟨4, by decide +kernel, we_len rfl gL (we_name 0 rfl ⟨_, rfl, r2_neI ⟨_, rfl, rfl, ?_⟩⟩)⟩⟩))))
    refine wb_nil (wb_cons (ws_ifF (wt_cmp op_eq rfl (we_name 1 rfl (we_str (r2_eqS ⟨_, rfl, by decide +kernel, ?_⟩))))))
    refine wb_nil (wb_cons (ws_ifT (wt_cmp op_eq rfl (we_name 1 rfl (we_str (r2_eqS ⟨_, rfl, by decide +kernel, ?_⟩))))))
    refine wb_cons (ws_ret (we_andV (we_callH hN hr (wa_cons (we_ix ix_list (we_name 2 rfl (we_int (r2_ixL (ds := [.str n, .str p, .str q]) (d := .str n) rfl rfl (wa_nil ⟨_, h1, rfl, fun S1 k1 => ⟨rfl, ?_⟩⟩)))))))))
    refine we_andV (we_callH hP hr (wa_cons (we_ix ix_list (we_name 2 rfl (we_int (r2_ixL (ds := [.str n, .str p, .str q]) (d := .str p) rfl rfl (wa_nil ⟨_, h2, rfl, fun S2 k2 => ⟨rfl, ?_⟩⟩)))))))
    exact we_one (we_callH hP hr (wa_cons (we_ix ix_list (we_name 2 rfl (we_int (r2_ixL (ds := [.str n, .str p, .str q]) (d := .str q) rfl rfl (wa_nil ⟨_, h3, rfl, fun S3 k3 => k S3 (k1.trans (k2.trans k3))⟩)))))))
  | drop p =>
    have h1 : PathOk p := hx
    refine wb_cons (ws_ifF (wt_ww (ww_orF (wt_notF (wt_val (we_isT rfl gI rfl gT boot_ty_tuple (we_name 0 rfl ⟨"tuple", true, rfl, by decide +kernel, _, rfl, rfl, ?_⟩)))))))
    refine ww_orF (wt_cmp (op_eqD (by show A.units + 3 + 64 < cLine; omega)) rfl (we_name 0 rfl (we_tup (wa_nil ⟨by simp, r2_eqD (e := .tup []) rfl rfl hok rfl hne ⟨_, rfl, rfl, ?_⟩⟩))))
    refine ww_or1F (wt_notF (wt_val (we_isT rfl gI rfl gS boot_ty_str (we_ix ix_tup (we_name 0 rfl (we_int (r2_ixT rfl ⟨"str", true, rfl, by decide +kernel, _, rfl, rfl, rfl, ?_⟩)))))))
    refine wb_nil (wb_cons (ws_asg (we_name 0 rfl (wg_starT (n := 2) (j := 1) rfl (by decide) (by simp) (by simp) (wgs_cons (wg_name 1 (wgs_star (wg_name 2 (wgs_nil ?_) nd)) nd))))))
    refine wb_cons (ws_ifF (wt_cmp op_ne rfl (we_kgetI gZ (we_name 1 rfl ⟨_, rfl, we_int ⟨2, by decide +kernel, we_len rfl gL (we_name 0 rfl ⟨_, rfl, r2_neI ⟨_, rfl, rfl, ?_⟩⟩)⟩⟩))))
    refine wb_nil (wb_cons (ws_ifF (wt_cmp op_eq rfl (we_name 1 rfl (we_str (r2_eqS ⟨_, rfl, by decide +kernel, ?_⟩))))))
    refine wb_nil (wb_cons (ws_ifF (wt_cmp op_eq rfl (we_name 1 rfl (we_str (r2_eqS ⟨_, rfl, by decide +kernel, ?_⟩))))))
    refine wb_nil (wb_cons (ws_ifT (wt_cmp op_eq rfl (we_name 1 rfl (we_str (r2_eqS ⟨_, rfl, by decide +kernel, ?_⟩))))))
    exact wb_cons (ws_ret (we_callH hP hr (wa_cons (we_ix ix_list (we_name 2 rfl (we_int (r2_ixL (ds := [.str p]) (d := .str p) rfl rfl (wa_nil ⟨_, h1, rfl, fun S1 k1 => k S1 k1⟩))))))))
  | join p ps =>
    obtain ⟨h1, h2, h3, h4⟩ := hx
    refine wb_cons (ws_ifF (wt_ww (ww_orF (wt_notF (wt_val (we_isT rfl gI rfl gT boot_ty_tuple (we_name 0 rfl ⟨"tuple", true, rfl, by decide +kernel, _, rfl, rfl, ?_⟩)))))))
    refine ww_orF (wt_cmp (op_eqD (by show A.units + 3 + 64 < cLine; omega)) rfl (we_name 0 rfl (we_tup (wa_nil ⟨by simp, r2_eqD (e := .tup []) rfl rfl hok rfl hne ⟨_, rfl, rfl, ?_⟩⟩))))
    refine ww_or1F (wt_notF (wt_val (we_isT rfl gI rfl gS boot_ty_str (we_ix ix_tup (we_name 0 rfl (we_int (r2_ixT rfl ⟨"str", true, rfl, by decide +kernel, _, rfl, rfl, rfl, ?_⟩)))))))
    refine wb_nil (wb_cons (ws_asg (we_name 0 rfl (wg_starT (n := 2) (j := 1) rfl (by decide) (by simp) (by simp) (wgs_cons (wg_name 1 (wgs_star (wg_name 2 (wgs_nil ?_) nd)) nd))))))
    refine wb_cons (ws_ifF (wt_cmp op_ne rfl (we_kgetI gZ (we_name 1 rfl ⟨_, rfl, we_int ⟨3, by decide +kernel, we_len rfl gL (we_name 0 rfl ⟨_, rfl, r2_neI ⟨_, rfl, rfl, ?_⟩⟩)⟩⟩))))
    refine wb_nil (wb_cons (ws_ifF (wt_cmp op_eq rfl (we_name 1 rfl (we_str (r2_eqS ⟨_, rfl, by decide +kernel, ?_⟩))))))
    refine wb_nil (wb_cons (ws_ifF (wt_cmp op_eq rfl (we_name 1 rfl (we_str (r2_eqS ⟨_, rfl, by decide +kernel, ?_⟩))))))
    refine wb_nil (wb_cons (ws_ifF (wt_cmp op_eq rfl (we_name 1 rfl (we_str (r2_eqS ⟨_, rfl, by decide +kernel, ?_⟩))))))
    refine wb_nil (wb_cons (ws_ifF (wt_ww (ww_orF (wt_notF (wt_val (we_callH hP hr (wa_cons (we_ix ix_list (we_name 2 rfl (we_int (r2_ixL (ds := [.str p, strsD ps]) (d := .str p) rfl rfl (wa_nil ⟨_, h1, rfl, fun S1 k1 => ⟨_, rfl, rfl, ?_⟩⟩)))))))))))))
    refine ww_orF (wt_notF (wt_val (we_isT rfl gI rfl gT boot_ty_tuple (we_ix ix_list (we_name 2 rfl (we_int (r2_ixL (ds := [.str p, strsD ps]) (d := strsD ps) rfl rfl ⟨"tuple", true, rfl, by decide +kernel, _, rfl, rfl, ?_⟩)))))))
    refine ww_or1F (wt_notF (wt_chainT op_le op_le (we_int (we_len rfl gL (we_ix ix_list (we_name 2 rfl (we_int (r2_ixL (ds := [.str p, strsD ps]) (d := strsD ps) rfl rfl ⟨_, rfl, r2_cmp0 ⟨?_, we_int (r2_cmp0 ⟨true, ?_, rfl, rfl, ?_⟩)⟩⟩))))))))
    · rw [List.length_map, decide_eq_true (by omega)]
    · rw [List.length_map, decide_eq_true (by omega)]
    refine wb_nil (wb_cons (ws_ret (we_all rfl rfl gA ?_)))
    refine we_lc (own := [("one", 3)]) (g := gName 3) rfl nd (blkOk_by (N := nIsStep) (sc := defScope s_is_step) (by decide +kernel)) (fun _ _ _ _ _ => pg_name nd rfl (.inl rfl) (.inr rfl)) ?_
    refine wi_tup (we_ix ix_list (we_name 2 rfl (we_int (r2_ixL (ds := [.str p, strsD ps]) (d := strsD ps) rfl rfl ⟨_, rfl, lc_mapE D.str ps rfl (fun _ => .bl true) (by rw [List.length_map]; omega) (fun _ _ => trivial) (fun i y S' hy kp => ?_) fun S2 k2 => ⟨ps.map fun _ => true, trues ps, by rw [all_true]; exact k S2 (k1.trans k2)⟩⟩))))
    exact ⟨_, tc_name (by decide), fun s H0 C cl fp => we_callH hP hr (wa_cons (we_name 3 rfl (wa_nil ⟨y, h4 y (List.mem_of_getElem? hy), rfl, fun S2 k2 => ⟨rfl, kp.trans k2⟩⟩)))⟩
end
end Wy
set_option Elab.async false
set_option linter.all false
set_option maxRecDepth 100000
set_option maxHeartbeats 4000000
namespace Wy
open PySem PySem.Spec PyProof.Rows L2 Ab
/-! ### texts of needs, steps, wares, entries -/
def showNames (n : Str) (ex : List Str) : Str := Txt.join "+" (n :: ex)
def showNd (n : Nd) : Str := (showNames n.name n.ex ++ " ") ++ showRg n.rg
def showSt : Stp → Str
  | .put p t => (((Str.empty ++ "step put ") ++ p) ++ " ") ++ foldS t
  | .join p ps => (((Str.empty ++ "step join ") ++ p) ++ " ") ++ Txt.join " " ps
  | .take n p q => ("step " : Str) ++ Txt.join " " ["take", n, p, q]
  | .drop p => ("step " : Str) ++ Txt.join " " ["drop", p]
def rowW (q : Wa) : Str := (((Str.empty ++ "ware ") ++ q.name) ++ " ") ++ showEd q.ed
def rowN (n : Nd) : Str := ("need " : Str) ++ showNd n
def rowF (x : Str × Str) : Str := (((Str.empty ++ "file ") ++ x.1) ++ " ") ++ foldS x.2
def rowX (x : Str × List Nd) : List Str := [("extra " : Str) ++ x.1] ++ x.2.map rowN
def rowsW (q : Wa) : List Str := ((([rowW q] ++ q.needs.map rowN) ++ q.extras.flatMap rowX) ++ q.files.map rowF) ++ q.steps.map showSt
def showWa (q : Wa) : Str := Txt.join "\n" (rowsW q)
theorem names_len {n : Str} {ex : List Str} (h : NameOk n) (hx : ExsOk ex) : (showNames n ex).length ≤ 40 := by
  refine Nat.le_trans (txt_join_len _ _) ?_
  have e : ("+" : Str).length = 1 := rfl
  have h1 := sum_le (fun s : Str => s.length) 8 (n :: ex) fun s hs => by
    rcases List.mem_cons.mp hs with z | z
    · rw [z]; exact h.hi
    · exact (hx.nm s z).hi
  have h2 := hx.few
  rw [e]
  rw [List.length_cons] at h1 ⊢
  omega
theorem nd_len {n : Nd} (h : NdOk n) : (showNd n).length ≤ 1100 := by
  have h1 := names_len h.nm h.ex
  have h2 := showRg_len h.rg
  have e : (" " : Str).length = 1 := rfl
  simp only [showNd, str_len_append, e]
  omega
theorem st_len {s : Stp} (h : StOk s) : (showSt s).length ≤ 1900 := by
  have e0 : Str.empty.length = 0 := rfl
  have e1 : (" " : Str).length = 1 := rfl
  have e2 : ("step put " : Str).length = 9 := rfl
  have e3 : ("step join " : Str).length = 10 := rfl
  have e4 : ("step " : Str).length = 5 := rfl
  have e5 : ("take" : Str).length = 4 := rfl
  have e6 : ("drop" : Str).length = 4 := rfl
  cases s with
  | put p t =>
    have h1 := h.1.hi
    have h2 := h.2.hi
    have h3 := fold_len t
    simp only [showSt, str_len_append, e0, e1, e2]
    omega
  | join p ps =>
    have h1 := h.1.hi
    have h2 := txt_join_len " " ps
    have h3 := sum_le (fun s : Str => s.length) 20 ps fun s hs => (h.2.2.2 s hs).hi
    have h4 := h.2.2.1
    rw [e1] at h2
    simp only [showSt, str_len_append, e0, e1, e3]
    omega
  | take n p q =>
    have h1 := h.1.hi
    have h2 := h.2.1.hi
    have h3 := h.2.2.hi
    have h4 := txt_join_len " " ["take", n, p, q]
    simp only [List.map_cons, List.map_nil, List.sum_cons, List.sum_nil, List.length_cons, List.length_nil, e1, e5] at h4
    simp only [showSt, str_len_append, e4]
    omega
  | drop p =>
    have h1 : p.length ≤ 20 := PathOk.hi h
    have h4 := txt_join_len " " ["drop", p]
    simp only [List.map_cons, List.map_nil, List.sum_cons, List.sum_nil, List.length_cons, List.length_nil, e1, e6] at h4
    simp only [showSt, str_len_append, e4]
    omega
theorem rowX_len (x : Str × List Nd) : (rowX x).length = x.2.length + 1 := by
  rw [rowX, List.length_append, List.length_map, List.length_singleton, Nat.add_comm]
theorem rows_small {q : Wa} (h : WaOk q) : ∀ r ∈ rowsW q, r.length ≤ 2000 := by
  have e0 : Str.empty.length = 0 := rfl
  have e1 : (" " : Str).length = 1 := rfl
  have e2 : ("ware " : Str).length = 5 := rfl
  have e3 : ("need " : Str).length = 5 := rfl
  have e4 : ("extra " : Str).length = 6 := rfl
  have e5 : ("file " : Str).length = 5 := rfl
  have hneed : ∀ n, NdOk n → (rowN n).length ≤ 2000 := fun n hn => by
    have := nd_len hn
    simp only [rowN, str_len_append, e3]
    omega
  intro r hr
  simp only [rowsW, List.mem_append, List.mem_map, List.mem_flatMap, List.mem_singleton] at hr
  rcases hr with (((z | ⟨n, hn, z⟩) | ⟨x, hx, z⟩) | ⟨x, hx, z⟩) | ⟨s, hs, z⟩
  · subst z
    have := h.nm.hi
    have := showEd_len h.ed
    simp only [rowW, str_len_append, e0, e1, e2]
    omega
  · subst z
    exact hneed n (h.needs.nd n hn)
  · obtain ⟨h1, h2⟩ := h.xok x hx
    simp only [rowX, List.mem_append, List.mem_map, List.mem_singleton] at z
    rcases z with z | ⟨n, hn, z⟩
    · subst z
      have := h1.hi
      simp only [str_len_append, e4]
      omega
    · subst z
      exact hneed n (h2.nd n hn)
  · subst z
    obtain ⟨h1, h2⟩ := h.fok x hx
    have := h1.hi
    have := h2.hi
    have := fold_len x.2
    simp only [rowF, str_len_append, e0, e1, e5]
    omega
  · subst z
    exact Nat.le_trans (st_len (h.sok s hs)) (by decide)
theorem flatX_len : ∀ l : List (Str × List Nd), (∀ x ∈ l, NameOk x.1 ∧ NdsOk x.2) → (l.flatMap rowX).length ≤ l.length * 6
  | l, h => flat_len rowX 6 l fun x hx => by
    rw [rowX_len]
    have := (h x hx).2.few
    omega
theorem rows_few {q : Wa} (h : WaOk q) : (rowsW q).length ≤ 40 := by
  have h1 := h.needs.few
  have h2 := flatX_len q.extras h.xok
  have h3 := h.xfew
  have h4 := h.ffew
  have h5 := h.sfew
  simp only [rowsW, List.length_append, List.length_map, List.length_singleton]
  omega
def cShowNames : Ct := fun ds S Φ Ψ => ∃ (n : Str) (ex : List Str), NameOk n ∧ ExsOk ex ∧ ds = [.str n, strsD ex] ∧ Φ (.str (showNames n ex)) S
def cShowNd : Ct := fun ds S Φ Ψ => ∃ n : Nd, NdOk n ∧ ds = [ndD n] ∧ ∀ S', Keep S S' → Φ (.str (showNd n)) S'
def cShowSt : Ct := fun ds S Φ Ψ => ∃ s : Stp, StOk s ∧ ds = [stD s] ∧ Φ (.str (showSt s)) S
def cShowWa : Ct := fun ds S Φ Ψ => ∃ q : Wa, WaOk q ∧ ds = [waD q] ∧ ∀ S', Keep S S' → Φ (.str (showWa q)) S'
section
variable {P : Program} {w : World} {K : PySem.W.Frag} {mg : Str → Option Value} {base : Heap} {f : Addr} {fd : FuncData}
abbrev nIsWare : List Str := ["thing", "name", "edition", "needs", "extras", "files", "steps", "need", "some", "more", "extra", "step"]
theorem scIsWare : FnScope nIsWare ["thing"] (defScope s_is_ware) := ⟨rfl, rfl, rfl, by decide +kernel, rfl, by decide +kernel, by decide +kernel⟩
theorem ok_isWare (F : FnP K "is_ware" s_is_ware f fd) (hm : mg "is_ware" = some (.ref f)) (gI : mg "isinstance" = none) (gT : mg "tuple" = none) (gL : mg "len" = none) (gA : mg "all" = none) (gMX : GI mg "MOST_EXTRAS" 3) (gMF : GI mg "MOST_FILES" 6) (gMS : GI mg "MOST_STEPS" 8)
    (hN : Has P w K mg base 1 "is_name" ["thing"] cIsName) (hE : Has P w K mg base 2 "is_edition" ["thing"] cIsEd) (hNs : Has P w K mg base 6 "are_needs" ["thing"] cNeeds) (hX : Has P w K mg base 7 "is_extra" ["thing"] cIsExtra) (hF : Has P w K mg base 2 "is_file" ["thing"] cIsFile) (hS : Has P w K mg base 2 "is_step" ["thing"] cIsStep)
    (hR7 : Has P w K mg base 8 "are_rows_of" ["thing", "most", "good"] (cRowsOf fun a c => HasA P w K mg base 7 a ["thing"] c)) (hR2 : Has P w K mg base 3 "are_rows_of" ["thing", "most", "good"] (cRowsOf fun a c => HasA P w K mg base 2 a ["thing"] c)) : Has P w K mg base 9 "is_ware" ["thing"] cIsWare := by
  refine fnH_of nIsWare F hm cIsWare (fun _ _ _ _ _ _ us hl => match us, hl with | [_], _ => rfl) scIsWare (fun ds S Φ Ψ h => by obtain ⟨_, _, rfl, _⟩ := h; rfl) ?_
  intro cdv A outer s H E hr ds S Φ Ψ ⟨q, hq, ed, k⟩
  subst ed
  have nd := scIsWare.nd
  have blk : ∀ {scope : Scope} {own : List (Str × Nat)}, blkC nIsWare (defScope s_is_ware) scope own = true → BlkOk (cxOf (L2.CX P w) P w K mg base nIsWare "is_ware" (defScope s_is_ware) f cdv A outer s H E).N (defScope s_is_ware) scope own := fun h => blkOk_by h
  refine wb_cons (ws_ifF (wt_ww (ww_orF (wt_notF (wt_val (we_isT rfl gI rfl gT boot_ty_tuple (we_name 0 rfl ⟨"tuple", true, rfl, by decide +kernel, _, rfl, rfl, ?_⟩)))))))
  refine ww_orF (wt_cmp op_ne rfl (we_len rfl gL (we_name 0 rfl ⟨_, rfl, we_int (r2_neI ⟨_, rfl, rfl, ?_⟩)⟩)))
  refine ww_orF (wt_notF (wt_val (we_callH hN (hr.mono (by decide)) (wa_cons (we_ix ix_tup (we_name 0 rfl (we_int (r2_ixT rfl (wa_nil ⟨_, hq.nm, rfl, fun S1 k1 => ⟨_, rfl, rfl, ?_⟩⟩)))))))))
  refine ww_or1F (wt_notF (wt_val (we_callH hE (hr.mono (by decide)) (wa_cons (we_ix ix_tup (we_name 0 rfl (we_int (r2_ixT rfl (wa_nil ⟨_, hq.ed, rfl, fun S2 k2 => ⟨_, rfl, rfl, rfl, ?_⟩⟩)))))))))
  refine wb_nil (wb_cons (ws_asg (we_name 0 rfl (wg_tup rfl (wgs_cons (wg_name 1 (wgs_cons (wg_name 2 (wgs_cons (wg_name 3 (wgs_cons (wg_name 4 (wgs_cons (wg_name 5 (wgs_cons (wg_name 6 (wgs_nil ?_) nd)) nd)) nd)) nd)) nd)) nd))))))
  refine wb_cons (ws_ifF (wt_ww (ww_orF (wt_notF (wt_val (we_callH hNs (hr.mono (by decide)) (wa_cons (we_name 3 rfl (wa_nil ⟨_, hq.needs, rfl, fun S3 k3 => ⟨_, rfl, rfl, ?_⟩⟩)))))))))
  obtain ⟨fx, gx, hx⟩ := hX.at_
  obtain ⟨ff, gf, hf⟩ := hF.at_
  refine ww_or1F (wt_notF (wt_val (we_callH hR7 hr (wa_cons (we_name 4 rfl (wa_cons (we_globI gMX (wa_cons (we_globF gx (wa_nil ⟨_, exD, (·.1), q.extras, 3, fx, cIsExtra, hx, hq.xfew, by decide, rfl, fun x _ => ⟨_, rfl⟩, fun x hm S' Φ' Ψ' h => ⟨x, (hq.xok x hm).1, (hq.xok x hm).2, rfl, h⟩, hq.xasc, fun S4 k4 => ⟨_, rfl, rfl, rfl, ?_⟩⟩))))))))))
  refine wb_nil (wb_cons (ws_ifF (wt_cmp op_in_seq rfl (we_name 1 rfl ?_))))
  refine we_lc2 (own := [("some", 8), ("need", 7)]) (vs1 := [7]) (g := gName 8) (g1 := gName 7) rfl nd (blk (by decide +kernel)) (by decide) (fun _ _ _ _ _ => pg_name nd rfl (.inl rfl) (.inr rfl)) (fun _ _ _ _ _ => pg_name nd rfl (.inl rfl) (.inr rfl)) ?_
  refine wi_list (we_bin op_catL (we_lst (wa_cons (we_name 3 rfl (wa_nil ⟨by simp, ?_⟩)))))
  refine we_lc (own := [("extra", 10), ("more", 9)]) (g := gTup K 2 (gNames [10, 9])) rfl nd (blk (by decide +kernel)) (fun _ _ _ _ _ => pg_tup rfl (pgs_cons (pg_name nd rfl (.inl rfl) (.inr rfl)) (pgs_cons (pg_name nd rfl (.inl rfl) (.inr rfl)) pgs_nil))) ?_
  have hxf := hq.xfew
  have hsf := hq.sfew
  have hns := hq.needs.few
  refine wi_tup (we_name 4 rfl ⟨_, rfl, lc_mapE exD q.extras rfl (fun x => .tup (x.2.map ndD)) (by rw [List.length_map]; omega) (fun _ _ => trivial) (fun i x S' hx kp => ?_) fun S5 k5 => ?_⟩)
  · exact ⟨_, tc_tup (js := [10, 9]) (by decide) rfl, fun s H0 C cl fp => we_name 9 rfl ⟨rfl, kp⟩⟩
  refine r2_catL (xs := [.tup (q.needs.map ndD)]) (ys := (q.extras.map fun x : Str × List Nd => D.tup (x.2.map ndD) : List D)) rfl rfl (by simp only [List.length_map, List.length_singleton]; omega) ?_
  refine ⟨_, rfl, lc2_flatE (fun l : List Nd => D.tup (l.map ndD)) (q.needs :: q.extras.map (·.2)) (by
    rw [List.map_cons, List.map_map]
    rfl) id ndD (fun n => .str n.name) (by simp only [List.length_cons, List.length_map]; omega) (fun l hl => ?_) (fun _ _ => rfl) (fun i l S' hl kp => ?_) fun S6 k6 => ?_⟩
  · show l.length ≤ 900
    rcases List.mem_cons.mp hl with z | z
    · rw [z]; omega
    · obtain ⟨x, hm, e⟩ := List.mem_map.mp z
      have := (hq.xok x hm).2.few
      rw [← e]
      omega
  · refine ⟨_, tc_name (by decide), fun s H0 C cl fp => wi_tup (we_name 8 rfl ⟨_, rfl, kp, rfl, fun _ _ => trivial, fun j n S4 hn k4 => ?_⟩)⟩
    exact ⟨_, tc_name (by decide), fun s H0 C cl fp => we_ix ix_tup (we_name 7 rfl (we_int (r2_ixT rfl ⟨rfl, k4⟩)))⟩
  have efl : ((q.needs :: q.extras.map (·.2)).flatMap id).map (fun n => D.str n.name) = (((q.needs :: q.extras.map (·.2)).flatMap id).map (·.name)).map D.str := by
    rw [List.map_map]
    rfl
  rw [efl]
  refine r2_inS rfl ⟨_, rfl, ?_, ?_⟩
  · refine decide_eq_false fun z => ?_
    obtain ⟨n, hn, e⟩ := List.mem_map.mp z
    refine hq.own n ?_ e
    rw [List.flatMap_cons] at hn
    rcases List.mem_append.mp hn with y | y
    · exact List.mem_append_left _ y
    · refine List.mem_append_right _ ?_
      obtain ⟨l, hl, hm⟩ := List.mem_flatMap.mp y
      obtain ⟨x, hx, e2⟩ := List.mem_map.mp hl
      exact List.mem_flatMap.mpr ⟨x, hx, by rw [e2]; exact hm⟩
  refine wb_nil (wb_cons (ws_ifF (wt_ww (ww_orF (wt_notF (wt_val (we_callH hR2 (hr.mono (by decide)) (wa_cons (we_name 5 rfl (wa_cons (we_globI gMF (wa_cons (we_globF gf (wa_nil ⟨_, flD, (·.1), q.files, 6, ff, cIsFile, hf, hq.ffew, by decide, rfl, fun x _ => ⟨_, rfl⟩, fun x hm S' Φ' Ψ' h => ⟨x, (hq.fok x hm).1, (hq.fok x hm).2, rfl, h⟩, hq.fasc, fun S7 k7 => ⟨_, rfl, rfl, ?_⟩⟩))))))))))))))
  refine ww_orF (wt_notF (wt_val (we_isT rfl gI rfl gT boot_ty_tuple (we_name 6 rfl ⟨"tuple", true, rfl, by decide +kernel, _, rfl, rfl, ?_⟩))))
  refine ww_or1F (wt_cmp op_gt rfl (we_len rfl gL (we_name 6 rfl ⟨_, rfl, we_globI gMS (r2_cmp0 ⟨_, rfl, decide_eq_false (by rw [List.length_map]; omega), rfl, ?_⟩)⟩)))
  refine wb_nil (wb_cons (ws_ret (we_all rfl rfl gA ?_)))
  refine we_lc (own := [("step", 11)]) (g := gName 11) rfl nd (blk (by decide +kernel)) (fun _ _ _ _ _ => pg_name nd rfl (.inl rfl) (.inr rfl)) ?_
  refine wi_tup (we_name 6 rfl ⟨_, rfl, lc_mapE stD q.steps rfl (fun _ => .bl true) (by rw [List.length_map]; omega) (fun _ _ => trivial) (fun i x S' hx kp => ?_) fun S8 k8 => ⟨q.steps.map fun _ => true, trues q.steps, ?_⟩⟩)
  · exact ⟨_, tc_name (by decide), fun s H0 C cl fp => we_callH hS (hr.mono (by decide)) (wa_cons (we_name 11 rfl (wa_nil ⟨x, hq.sok x (List.mem_of_getElem? hx), rfl, fun S2 k2 => ⟨rfl, kp.trans k2⟩⟩)))⟩
  · rw [all_true]
    exact k S8 (k1.trans (k2.trans (k3.trans (k4.trans (k5.trans (k6.trans (k7.trans k8)))))))
end
end Wy
set_option Elab.async false
set_option linter.all false
set_option maxRecDepth 100000
set_option maxHeartbeats 4000000
namespace Wy
open PySem PySem.Spec PyProof.Rows L2 Ab
/-! ### entries -/
inductive En where
  | put (q : Wa) | warn (n : Str) (r : Rg) (t : Str)
deriving DecidableEq
def enD : En → D
  | .put q => .tup [.str "put", waD q]
  | .warn n r t => .tup [.str "warn", .str n, rgD r, .str t]
def EnOk : En → Prop
  | .put q => WaOk q
  | .warn n r t => NameOk n ∧ RgOk r ∧ TextOk t
def showEn : En → Str
  | .put q => ("put\n" : Str) ++ showWa q
  | .warn n r t => ((((Str.empty ++ "warn ") ++ n) ++ " ") ++ showRg r ++ "\n") ++ foldS t
theorem wa_len {q : Wa} (h : WaOk q) : (showWa q).length ≤ 90000 := by
  have h1 := txt_join_len "\n" (rowsW q)
  have h2 := sum_le (fun r : Str => r.length) 2000 (rowsW q) (rows_small h)
  have h3 := rows_few h
  have e : ("\n" : Str).length = 1 := rfl
  rw [e] at h1
  have h4 : (rowsW q).length * 2000 ≤ 40 * 2000 := Nat.mul_le_mul_right _ h3
  show (Txt.join "\n" (rowsW q)).length ≤ _
  omega
theorem en_len {x : En} (h : EnOk x) : (showEn x).length ≤ 100000 := by
  have e0 : Str.empty.length = 0 := rfl
  have e1 : (" " : Str).length = 1 := rfl
  have e2 : ("warn " : Str).length = 5 := rfl
  have e3 : ("\n" : Str).length = 1 := rfl
  have e4 : ("put\n" : Str).length = 4 := rfl
  cases x with
  | put q =>
    have := wa_len h
    simp only [showEn, str_len_append, e4]
    omega
  | warn n r t =>
    have h1 := h.1.hi
    have h2 := showRg_len h.2.1
    have h3 := fold_len t
    have h4 := h.2.2.hi
    simp only [showEn, str_len_append, e0, e1, e2, e3]
    omega
def cShowEn : Ct := fun ds S Φ Ψ => ∃ x : En, EnOk x ∧ ds = [enD x] ∧ ∀ S', Keep S S' → Φ (.str (showEn x)) S'
section
variable {P : Program} {w : World} {K : PySem.W.Frag} {mg : Str → Option Value} {base : Heap} {f : Addr} {fd : FuncData}
theorem scNames : FnScope ["name", "extras"] ["name", "extras"] (defScope s_show_names) := ⟨rfl, rfl, rfl, by decide +kernel, rfl, by decide +kernel, by decide +kernel⟩
theorem ok_names (F : FnP K "show_names" s_show_names f fd) (hm : mg "show_names" = some (.ref f)) (gL : mg "list" = none) : Has P w K mg base 1 "show_names" ["name", "extras"] cShowNames := by
  refine fnH_of ["name", "extras"] F hm cShowNames (fun _ _ _ _ _ _ us hl => match us, hl with | [_, _], _ => rfl) scNames (fun ds S Φ Ψ h => by obtain ⟨_, _, _, _, rfl, _⟩ := h; rfl) ?_
  intro cdv A outer s H E hr ds S Φ Ψ ⟨n, ex, hn, hx, ed, k⟩
  subst ed
  have few := hx.few
  refine wb_cons (ws_ret (we_join (we_str ⟨_, rfl, ?_⟩)))
  refine we_bin op_catL (we_lst (wa_cons (we_name 0 rfl (wa_nil ⟨by simp, ?_⟩))))
  refine we_listF rfl gL (we_name 1 rfl ⟨ex.map D.str, rfl, ?_⟩)
  refine r2_catL (xs := [.str n]) (ys := ex.map D.str) rfl rfl (by simp only [List.length_map, List.length_singleton]; omega) ?_
  refine ⟨n :: ex, rfl, ?_, k⟩
  have e : ("+" : Str).length = 1 := rfl
  have h1 := sum_le (fun s : Str => s.length) 8 (n :: ex) fun s hs => by
    rcases List.mem_cons.mp hs with z | z
    · rw [z]; exact hn.hi
    · exact (hx.nm s z).hi
  rw [e]
  rw [List.length_cons] at h1 ⊢
  omega
theorem scShowNd : FnScope ["need"] ["need"] (defScope s_show_need) := ⟨rfl, rfl, rfl, by decide +kernel, rfl, by decide +kernel, by decide +kernel⟩
theorem ok_showNd (F : FnP K "show_need" s_show_need f fd) (hm : mg "show_need" = some (.ref f)) (h1 : Has P w K mg base 1 "show_names" ["name", "extras"] cShowNames) (h2 : Has P w K mg base 3 "show_range" ["one"] cShowRg) : Has P w K mg base 4 "show_need" ["need"] cShowNd := by
  refine fnH_of ["need"] F hm cShowNd (fun _ _ _ _ _ _ us hl => match us, hl with | [_], _ => rfl) scShowNd (fun ds S Φ Ψ h => by obtain ⟨_, _, rfl, _⟩ := h; rfl) ?_
  intro cdv A outer s H E hr ds S Φ Ψ ⟨n, hn, ed, k⟩
  subst ed
  have l1 := names_len hn.nm hn.ex
  have l2 := showRg_len hn.rg
  have e : (" " : Str).length = 1 := rfl
  refine wb_cons (ws_ret ?_)
  refine we_bin op_add_str (we_bin op_add_str ?_)
  refine we_callH h1 (hr.mono (by decide)) (wa_cons (we_ix ix_tup (we_name 0 rfl (we_int (r2_ixT rfl (wa_cons (we_ix ix_tup (we_name 0 rfl (we_int (r2_ixT rfl (wa_nil ⟨n.name, n.ex, hn.nm, hn.ex, rfl, ?_⟩)))))))))))
  refine we_str (r2_addS (by omega) ?_)
  refine we_callH h2 hr (wa_cons (we_ix ix_tup (we_name 0 rfl (we_int (r2_ixT rfl (wa_nil ⟨n.rg, hn.rg, rfl, fun S1 k1 => r2_addS ?_ (k S1 k1)⟩))))))
  rw [str_len_append, e]
  omega
theorem scShowSt : FnScope ["step"] ["step"] (defScope s_show_step) := ⟨rfl, rfl, rfl, by decide +kernel, rfl, by decide +kernel, by decide +kernel⟩
theorem ok_showSt (F : FnP K "show_step" s_show_step f fd) (hm : mg "show_step" = some (.ref f)) (hF : HasT P w K mg base 1 "folded" ["text"] spFold) : Has P w K mg base 2 "show_step" ["step"] cShowSt := by
  refine fnH_of ["step"] F hm cShowSt (fun _ _ _ _ _ _ us hl => match us, hl with | [_], _ => rfl) scShowSt (fun ds S Φ Ψ h => by obtain ⟨_, _, rfl, _⟩ := h; rfl) ?_
  intro cdv A outer s H E hr ds S Φ Ψ ⟨x, hx, ed, k⟩
  subst ed
  have e0 : Str.empty.length = 0 := rfl
  have e1 : (" " : Str).length = 1 := rfl
  have e2 : ("step put " : Str).length = 9 := rfl
  have e3 : ("step join " : Str).length = 10 := rfl
  have e4 : ("step " : Str).length = 5 := rfl
  have e5 : ("take" : Str).length = 4 := rfl
  have e6 : ("drop" : Str).length = 4 := rfl
  cases x with
  | put p t =>
    obtain ⟨h1, h2⟩ := hx
    have l1 := h1.hi
    have l2 := h2.hi
    have l3 := fold_len t
    refine wb_cons (ws_ifT (wt_cmp op_eq rfl (we_ix ix_tup (we_name 0 rfl (we_int (r2_ixT rfl (we_str (r2_eqS ⟨_, rfl, by decide +kernel, ?_⟩))))))))
    refine wb_cons (ws_ret (we_plusH hF (hr.mono (by decide)) ?_))
    refine we_str ⟨_, rfl, by simp only [e2, e0]; omega, ?_⟩
    refine we_fmt (we_ix ix_tup (we_name 0 rfl (we_int (r2_ixT rfl (.inl ⟨_, rfl, by omega, ?_⟩)))))
    refine ⟨_, rfl, by simp only [str_len_append, e2, e0]; omega, we_str ⟨_, rfl, by simp only [str_len_append, e2, e1, e0]; omega, ?_⟩⟩
    refine we_ix ix_tup (we_name 0 rfl (we_int (r2_ixT rfl ⟨_, rfl, by omega, ?_, k⟩)))
    simp only [str_len_append, e2, e1, e0]
    omega
  | join p ps =>
    obtain ⟨h1, h2, h3, h4⟩ := hx
    have l1 := h1.hi
    have hj := txt_join_len " " ps
    have hs := sum_le (fun s : Str => s.length) 20 ps fun s hs => (h4 s hs).hi
    rw [e1] at hj
    refine wb_cons (ws_ifF (wt_cmp op_eq rfl (we_ix ix_tup (we_name 0 rfl (we_int (r2_ixT rfl (we_str (r2_eqS ⟨_, rfl, by decide +kernel, ?_⟩))))))))
    refine wb_nil (wb_cons (ws_ifT (wt_cmp op_eq rfl (we_ix ix_tup (we_name 0 rfl (we_int (r2_ixT rfl (we_str (r2_eqS ⟨_, rfl, by decide +kernel, ?_⟩)))))))))
    refine wb_cons (ws_ret (we_bin op_add_str (we_fstr ?_)))
    refine we_str ⟨_, rfl, by simp only [e3, e0]; omega, ?_⟩
    refine we_fmt (we_ix ix_tup (we_name 0 rfl (we_int (r2_ixT rfl (.inl ⟨_, rfl, by omega, ?_⟩)))))
    refine ⟨_, rfl, by simp only [str_len_append, e3, e0]; omega, we_str ⟨_, rfl, by simp only [str_len_append, e3, e1, e0]; omega, ?_⟩⟩
    refine we_join (we_str ⟨_, rfl, we_ix ix_tup (we_name 0 rfl (we_int (r2_ixT rfl ⟨ps, rfl, by rw [e1]; omega, r2_addS ?_ k⟩)))⟩)
    simp only [str_len_append, e3, e1, e0]
    omega
  | take n p q =>
    obtain ⟨h1, h2, h3⟩ := hx
    have l1 := h1.hi
    have l2 := h2.hi
    have l3 := h3.hi
    have hj := txt_join_len " " ["take", n, p, q]
    simp only [List.map_cons, List.map_nil, List.sum_cons, List.sum_nil, List.length_cons, List.length_nil, e1, e5] at hj
    refine wb_cons (ws_ifF (wt_cmp op_eq rfl (we_ix ix_tup (we_name 0 rfl (we_int (r2_ixT rfl (we_str (r2_eqS ⟨_, rfl, by decide +kernel, ?_⟩))))))))
    refine wb_nil (wb_cons (ws_ifF (wt_cmp op_eq rfl (we_ix ix_tup (we_name 0 rfl (we_int (r2_ixT rfl (we_str (r2_eqS ⟨_, rfl, by decide +kernel, ?_⟩)))))))))
    refine wb_nil (wb_cons (ws_ret (we_bin op_add_str (we_str (we_join (we_str ⟨_, rfl, we_name 0 rfl ⟨["take", n, p, q], rfl, ?_, r2_addS ?_ k⟩⟩))))))
    · simp only [List.map_cons, List.map_nil, List.sum_cons, List.sum_nil, List.length_cons, List.length_nil, e1, e5]
      omega
    · rw [e4]
      omega
  | drop p =>
    have l1 : p.length ≤ 20 := PathOk.hi hx
    have hj := txt_join_len " " ["drop", p]
    simp only [List.map_cons, List.map_nil, List.sum_cons, List.sum_nil, List.length_cons, List.length_nil, e1, e6] at hj
    refine wb_cons (ws_ifF (wt_cmp op_eq rfl (we_ix ix_tup (we_name 0 rfl (we_int (r2_ixT rfl (we_str (r2_eqS ⟨_, rfl, by decide +kernel, ?_⟩))))))))
    refine wb_nil (wb_cons (ws_ifF (wt_cmp op_eq rfl (we_ix ix_tup (we_name 0 rfl (we_int (r2_ixT rfl (we_str (r2_eqS ⟨_, rfl, by decide +kernel, ?_⟩)))))))))
    refine wb_nil (wb_cons (ws_ret (we_bin op_add_str (we_str (we_join (we_str ⟨_, rfl, we_name 0 rfl ⟨["drop", p], rfl, ?_, r2_addS ?_ k⟩⟩))))))
    · simp only [List.map_cons, List.map_nil, List.sum_cons, List.sum_nil, List.length_cons, List.length_nil, e1, e6]
      omega
    · rw [e4]
      omega
abbrev nShowWa : List Str := ["ware", "name", "edition", "needs", "extras", "files", "steps", "rows", "extra", "more", "need", "path", "text", "step"]
theorem scShowWa : FnScope nShowWa ["ware"] (defScope s_show_ware) := ⟨rfl, rfl, rfl, by decide +kernel, rfl, by decide +kernel, by decide +kernel⟩
theorem strs_of (l : List Str) : LstD S (.lst (l.map D.str)) (l.map D.str) := rfl
theorem ok_showWa (F : FnP K "show_ware" s_show_ware f fd) (hm : mg "show_ware" = some (.ref f)) (hF : HasT P w K mg base 1 "folded" ["text"] spFold) (hE : Has P w K mg base 1 "show_edition" ["edition"] cShowEd) (hN : Has P w K mg base 4 "show_need" ["need"] cShowNd) (hS : Has P w K mg base 2 "show_step" ["step"] cShowSt) : Has P w K mg base 5 "show_ware" ["ware"] cShowWa := by
  refine fnH_of nShowWa F hm cShowWa (fun _ _ _ _ _ _ us hl => match us, hl with | [_], _ => rfl) scShowWa (fun ds S Φ Ψ h => by obtain ⟨_, _, rfl, _⟩ := h; rfl) ?_
  intro cdv A outer s H E hr ds S Φ Ψ ⟨q, hw, ed, k⟩
  subst ed
  have nd := scShowWa.nd
  have blk : ∀ {scope : Scope} {own : List (Str × Nat)}, blkC nShowWa (defScope s_show_ware) scope own = true → BlkOk (cxOf (L2.CX P w) P w K mg base nShowWa "show_ware" (defScope s_show_ware) f cdv A outer s H E).N (defScope s_show_ware) scope own := fun h => blkOk_by h
  have e0 : ("ware " : Str).length = 5 := rfl
  have e1 : (" " : Str).length = 1 := rfl
  have e3 : Str.empty.length = 0 := rfl
  have e4 : ("need " : Str).length = 5 := rfl
  have e5 : ("extra " : Str).length = 6 := rfl
  have e6 : ("file " : Str).length = 5 := rfl
  have e8 : ("\n" : Str).length = 1 := rfl
  have n1 := hw.nm.hi
  have l2 := showEd_len hw.ed
  have f1 := hw.needs.few
  have f2 := hw.xfew
  have f3 := hw.ffew
  have f4 := hw.sfew
  refine wb_cons (ws_asg (we_name 0 rfl (wg_tup rfl (wgs_cons (wg_name 1 (wgs_cons (wg_name 2 (wgs_cons (wg_name 3 (wgs_cons (wg_name 4 (wgs_cons (wg_name 5 (wgs_cons (wg_name 6 (wgs_nil ?_) nd)) nd)) nd)) nd)) nd)) nd)))))
  refine wb_cons (ws_set 7 nd (we_lst (wa_cons (we_fstr ?_))))
  refine we_str ⟨_, rfl, by simp only [e0, e3]; omega, ?_⟩
  refine we_fmt (we_name 1 rfl (.inl ⟨_, rfl, by omega, ?_⟩))
  refine ⟨_, rfl, by simp only [str_len_append, e0, e3]; omega, we_str ⟨_, rfl, by simp only [str_len_append, e0, e1, e3]; omega, ?_⟩⟩
  refine we_fmt (we_callH hE (hr.mono (by decide)) (wa_cons (we_name 2 rfl (wa_nil ⟨q.ed, hw.ed, rfl, .inl ⟨_, rfl, by omega, ?_⟩⟩))))
  refine ⟨_, rfl, by simp only [str_len_append, e0, e1, e3]; omega, wa_nil ⟨by simp, ?_⟩⟩
  have need : ∀ (n : Nd) {S' S'' : List Cell}, NdOk n → (rowN n).length ≤ 2000 := fun n _ _ hn => by
    have := nd_len hn
    simp only [rowN, str_len_append, e4]
    omega
  refine wb_cons (ws_set 7 nd (we_bin op_catL (we_name 7 rfl ?_)))
  refine we_lc (own := [("need", 10)]) (g := gName 10) rfl nd (blk (by decide +kernel)) (fun _ _ _ _ _ => pg_name nd rfl (.inl rfl) (.inr rfl)) ?_
  refine wi_tup (we_name 3 rfl ⟨_, rfl, lc_mapE ndD q.needs rfl (fun n => .str (rowN n)) (by rw [List.length_map]; omega) (fun _ _ => trivial) (fun i n S' hx kp => ?_) fun S1 k1 => ?_⟩)
  · have hn := hw.needs.nd n (List.mem_of_getElem? hx)
    refine ⟨_, tc_name (by decide), fun s H0 C cl fp => we_bin op_add_str (we_str (we_callH hN hr (wa_cons (we_name 10 rfl (wa_nil ⟨n, hn, rfl, fun S2 k2 => r2_addS ?_ ⟨rfl, kp.trans k2⟩⟩)))))⟩
    have := nd_len hn
    rw [e4]
    omega
  refine r2_catL (xs := ([rowW q].map D.str : List D)) (ys := (q.needs.map fun n => D.str (rowN n) : List D)) rfl rfl (by simp only [List.length_map, List.length_singleton]; omega) ?_
  have ea : ([rowW q].map D.str : List D) ++ (q.needs.map fun n => D.str (rowN n)) = ([rowW q] ++ q.needs.map rowN).map D.str := by
    rw [List.map_append, List.map_map]
    rfl
  rw [ea]
  refine wb_cons (ws_forI (passes_of rfl) rfl (wi_tup (we_name 4 rfl ⟨_, rfl, fun i Γ' S' => (∃ a b, Γ' = [some (waD q), some (.str q.name), some (edD q.ed), some (.tup (q.needs.map ndD)), some (.tup (q.extras.map exD)), some (.tup (q.files.map flD)), some (.tup (q.steps.map stD)), some (.lst ((([rowW q] ++ q.needs.map rowN) ++ (q.extras.take i).flatMap rowX).map D.str)), a, b, none, none, none, none]) ∧ Keep S S', ⟨⟨none, none, by rw [List.take_zero, List.flatMap_nil, List.append_nil]; rfl⟩, k1⟩, (fun _ _ _ _ _ => trivial), ?_, ?_⟩)))
  · rintro i y Γ' S' hy ⟨⟨a, b, rfl⟩, kp⟩
    rw [List.getElem?_map] at hy
    obtain ⟨x, hx, rfl⟩ := Option.map_eq_some_iff.mp hy
    obtain ⟨h1, h2⟩ := hw.xok x (List.mem_of_getElem? hx)
    have hx1 := h1.hi
    have hx2 := h2.few
    refine wg_tup rfl (wgs_cons (wg_name 8 (wgs_cons (wg_name 9 (wgs_nil ?_) nd)) nd))
    refine wb_cons (ws_set 7 nd (we_bin op_catL (we_bin op_catL (we_name 7 rfl (we_lst (wa_cons (we_bin op_add_str (we_str (we_name 8 rfl (r2_addS (by rw [e5]; omega) (wa_nil ⟨by simp, ?_⟩)))))))))))
    have hl0 : ((q.extras.take i).flatMap rowX).length ≤ 3 * 6 := by
      have := flatX_len (q.extras.take i) fun z hz => hw.xok z (List.mem_of_mem_take hz)
      have h3 : (q.extras.take i).length ≤ 3 := by rw [List.length_take]; omega
      have := Nat.mul_le_mul_right 6 h3
      omega
    refine r2_catL (xs := (([rowW q] ++ q.needs.map rowN) ++ (q.extras.take i).flatMap rowX).map D.str) (ys := [.str (("extra " : Str) ++ x.1)]) rfl rfl (by simp only [List.length_map, List.length_append, List.length_singleton]; omega) ?_
    refine we_lc (own := [("need", 10)]) (g := gName 10) rfl nd (blk (by decide +kernel)) (fun _ _ _ _ _ => pg_name nd rfl (.inl rfl) (.inr rfl)) ?_
    refine wi_tup (we_name 9 rfl ⟨_, rfl, lc_mapE ndD x.2 rfl (fun n => .str (rowN n)) (by rw [List.length_map]; omega) (fun _ _ => trivial) (fun j n S2 hn kp2 => ?_) fun S2 k2 => ?_⟩)
    · have hn := h2.nd n (List.mem_of_getElem? hn)
      refine ⟨_, tc_name (by decide), fun s H0 C cl fp => we_bin op_add_str (we_str (we_callH hN hr (wa_cons (we_name 10 rfl (wa_nil ⟨n, hn, rfl, fun S3 k3 => r2_addS ?_ ⟨rfl, kp2.trans k3⟩⟩)))))⟩
      have := nd_len hn
      rw [e4]
      omega
    refine r2_catL (xs := (([rowW q] ++ q.needs.map rowN) ++ (q.extras.take i).flatMap rowX).map D.str ++ [D.str (("extra " : Str) ++ x.1)]) (ys := (x.2.map fun n => D.str (rowN n) : List D)) rfl rfl (by simp only [List.length_map, List.length_append, List.length_singleton]; omega) ?_
    have ex : (((([rowW q] ++ q.needs.map rowN) ++ (q.extras.take i).flatMap rowX).map D.str ++ [D.str (("extra " : Str) ++ x.1)]) ++ (x.2.map fun n => D.str (rowN n)) : List D) = (([rowW q] ++ q.needs.map rowN) ++ (q.extras.take (i + 1)).flatMap rowX).map D.str := by
      rw [take_snoc hx, List.flatMap_append]
      simp only [List.map_append, List.flatMap_cons, List.flatMap_nil, List.append_nil, rowX, List.map_map, List.append_assoc]
      rfl
    rw [ex]
    exact wb_nil ⟨⟨_, _, rfl⟩, kp.trans k2⟩
  rintro Γ' S2 ⟨⟨a, b, rfl⟩, k2⟩
  rw [List.length_map, List.take_length]
  have hl1 := flatX_len q.extras hw.xok
  refine wb_cons (ws_set 7 nd (we_bin op_catL (we_name 7 rfl ?_)))
  refine we_lc (own := [("path", 11), ("text", 12)]) (g := gTup K 2 (gNames [11, 12])) rfl nd (blk (by decide +kernel)) (fun _ _ _ _ _ => pg_tup rfl (pgs_cons (pg_name nd rfl (.inl rfl) (.inr rfl)) (pgs_cons (pg_name nd rfl (.inl rfl) (.inr rfl)) pgs_nil))) ?_
  refine wi_tup (we_name 5 rfl ⟨_, rfl, lc_mapE flD q.files rfl (fun x => .str (rowF x)) (by rw [List.length_map]; omega) (fun _ _ => trivial) (fun i x S' hx kp => ?_) fun S3 k3 => ?_⟩)
  · obtain ⟨h1, h2⟩ := hw.fok x (List.mem_of_getElem? hx)
    have g1 := h1.hi
    have g2 := h2.hi
    have g3 := fold_len x.2
    refine ⟨_, tc_tup (js := [11, 12]) (by decide) rfl, fun s H0 C cl fp => ?_⟩
    refine we_plusH hF (hr.mono (by decide)) ?_
    refine we_str ⟨_, rfl, by simp only [e6, e3]; omega, ?_⟩
    refine we_fmt (we_name 11 rfl (.inl ⟨_, rfl, by omega, ?_⟩))
    refine ⟨_, rfl, by simp only [str_len_append, e6, e3]; omega, we_str ⟨_, rfl, by simp only [str_len_append, e6, e1, e3]; omega, ?_⟩⟩
    exact we_name 12 rfl ⟨_, rfl, by omega, by simp only [str_len_append, e6, e1, e3]; omega, rfl, kp⟩
  refine r2_catL (xs := (([rowW q] ++ q.needs.map rowN) ++ q.extras.flatMap rowX).map D.str) (ys := (q.files.map fun x => D.str (rowF x) : List D)) rfl rfl (by simp only [List.length_append, List.length_map, List.length_singleton]; omega) ?_
  refine wb_cons (ws_ret (we_join (we_str ⟨_, rfl, we_bin op_catL (we_name 7 rfl ?_)⟩)))
  refine we_lc (own := [("step", 13)]) (g := gName 13) rfl nd (blk (by decide +kernel)) (fun _ _ _ _ _ => pg_name nd rfl (.inl rfl) (.inr rfl)) ?_
  refine wi_tup (we_name 6 rfl ⟨_, rfl, lc_mapE stD q.steps rfl (fun x => .str (showSt x)) (by rw [List.length_map]; omega) (fun _ _ => trivial) (fun i x S' hx kp => ?_) fun S4 k4 => ?_⟩)
  · exact ⟨_, tc_name (by decide), fun s H0 C cl fp => we_callH hS (hr.mono (by decide)) (wa_cons (we_name 13 rfl (wa_nil ⟨x, hw.sok x (List.mem_of_getElem? hx), rfl, rfl, kp⟩)))⟩
  refine r2_catL (xs := (([rowW q] ++ q.needs.map rowN) ++ q.extras.flatMap rowX).map D.str ++ (q.files.map fun x => D.str (rowF x))) (ys := (q.steps.map fun x => D.str (showSt x) : List D)) rfl rfl (by simp only [List.length_append, List.length_map, List.length_singleton]; omega) ?_
  refine ⟨rowsW q, ?_, ?_, k _ (k2.trans (k3.trans k4))⟩
  · show _ = (rowsW q).map D.str
    simp only [rowsW, List.map_append, List.map_map]
    rfl
  · have h1 := sum_le (fun r : Str => r.length) 2000 (rowsW q) (rows_small hw)
    have h2 := rows_few hw
    rw [e8]
    have : (rowsW q).length * 2000 ≤ 40 * 2000 := Nat.mul_le_mul_right _ h2
    omega
theorem scShowEn : FnScope ["entry"] ["entry"] (defScope s_show_entry) := ⟨rfl, rfl, rfl, by decide +kernel, rfl, by decide +kernel, by decide +kernel⟩
theorem ok_showEn (F : FnP K "show_entry" s_show_entry f fd) (hm : mg "show_entry" = some (.ref f)) (hF : HasT P w K mg base 1 "folded" ["text"] spFold) (hW : Has P w K mg base 5 "show_ware" ["ware"] cShowWa) (hR : Has P w K mg base 3 "show_range" ["one"] cShowRg) : Has P w K mg base 6 "show_entry" ["entry"] cShowEn := by
  refine fnH_of ["entry"] F hm cShowEn (fun _ _ _ _ _ _ us hl => match us, hl with | [_], _ => rfl) scShowEn (fun ds S Φ Ψ h => by obtain ⟨_, _, rfl, _⟩ := h; rfl) ?_
  intro cdv A outer s H E hr ds S Φ Ψ ⟨x, hx, ed, k⟩
  subst ed
  have e0 : Str.empty.length = 0 := rfl
  have e1 : (" " : Str).length = 1 := rfl
  have e2 : ("warn " : Str).length = 5 := rfl
  have e3 : ("\n" : Str).length = 1 := rfl
  have e4 : ("put\n" : Str).length = 4 := rfl
  cases x with
  | put q =>
    have hl := wa_len hx
    refine wb_cons (ws_ifT (wt_cmp op_eq rfl (we_ix ix_tup (we_name 0 rfl (we_int (r2_ixT rfl (we_str (r2_eqS ⟨_, rfl, by decide +kernel, ?_⟩))))))))
    refine wb_cons (ws_ret (we_bin op_add_str (we_str (we_callH hW hr (wa_cons (we_ix ix_tup (we_name 0 rfl (we_int (r2_ixT rfl (wa_nil ⟨q, hx, rfl, fun S1 k1 => r2_addS ?_ (k S1 k1)⟩))))))))))
    rw [e4]
    omega
  | warn n r t =>
    obtain ⟨h1, h2, h3⟩ := hx
    have l1 := h1.hi
    have l2 := showRg_len h2
    have l3 := fold_len t
    have l4 := h3.hi
    refine wb_cons (ws_ifF (wt_cmp op_eq rfl (we_ix ix_tup (we_name 0 rfl (we_int (r2_ixT rfl (we_str (r2_eqS ⟨_, rfl, by decide +kernel, ?_⟩))))))))
    refine wb_nil (wb_cons (ws_ifT (wt_cmp op_eq rfl (we_ix ix_tup (we_name 0 rfl (we_int (r2_ixT rfl (we_str (r2_eqS ⟨_, rfl, by decide +kernel, ?_⟩)))))))))
    refine wb_cons (ws_ret (we_plusH hF (hr.mono (by decide)) ?_))
    refine we_str ⟨_, rfl, by simp only [e2, e0]; omega, ?_⟩
    refine we_fmt (we_ix ix_tup (we_name 0 rfl (we_int (r2_ixT rfl (.inl ⟨_, rfl, by omega, ?_⟩)))))
    refine ⟨_, rfl, by simp only [str_len_append, e2, e0]; omega, we_str ⟨_, rfl, by simp only [str_len_append, e2, e1, e0]; omega, ?_⟩⟩
    refine we_fmt (we_callH hR (hr.mono (by decide)) (wa_cons (we_ix ix_tup (we_name 0 rfl (we_int (r2_ixT rfl (wa_nil ⟨r, h2, rfl, fun S1 k1 => .inl ⟨_, rfl, by omega, ?_⟩⟩)))))))
    refine ⟨_, rfl, by simp only [str_len_append, e2, e1, e0]; omega, we_str ⟨_, rfl, by simp only [str_len_append, e2, e1, e0, e3]; omega, ?_⟩⟩
    refine we_ix ix_tup (we_name 0 rfl (we_int (r2_ixT rfl ⟨_, rfl, by omega, ?_, k S1 k1⟩)))
    simp only [str_len_append, e2, e1, e0, e3]
    omega
end
end Wy
set_option Elab.async false
set_option linter.all false
set_option maxRecDepth 100000
set_option maxHeartbeats 4000000
namespace Wy
open PySem PySem.Spec PyProof.Rows L2 Ab
/-! ### marks, chains, where two chains part -/
def mstep (f : Int) (c : Nat) : Int := (f * 1000003 + (c : Int) + 1) % 2305843009213693951
def mrk (s : Str) : Int := s.cps.toList.foldl mstep 7
def strI (i : Int) : Str := (toString i : Str)
theorem mrk_range (s : Str) : 0 ≤ mrk s ∧ mrk s < 2305843009213693951 := by
  have gen : ∀ (l : List Nat) (f : Int), 0 ≤ f → f < 2305843009213693951 → 0 ≤ l.foldl mstep f ∧ l.foldl mstep f < 2305843009213693951 := by
    intro l
    induction l with
    | nil => intro f h1 h2; exact ⟨h1, h2⟩
    | cons c l ih =>
      intro f _ _
      rw [List.foldl_cons]
      refine ih _ ?_ ?_
      · unfold mstep; exact Int.emod_nonneg _ (by decide)
      · unfold mstep; exact Int.emod_lt_of_pos _ (by decide)
  exact gen _ 7 (by decide) (by decide)
def lastC (acc : List Int) : Int := acc.getLastD 0
def chStep (acc : List Int) (x : En) : List Int := acc ++ [mrk ((strI (lastC acc) ++ " ") ++ showEn x)]
def chainF (xs : List En) : List Int := xs.foldl chStep []
theorem chain_snoc (xs : List En) (x : En) : chainF (xs ++ [x]) = chainF xs ++ [mrk ((strI (lastC (chainF xs)) ++ " ") ++ showEn x)] := by
  unfold chainF
  rw [List.foldl_append]
  rfl
theorem chain_nil : chainF [] = [] := rfl
theorem chain_len (xs : List En) : (chainF xs).length = xs.length := by
  have gen : ∀ (l : List En) (acc : List Int), (l.foldl chStep acc).length = acc.length + l.length := by
    intro l
    induction l with
    | nil => intro acc; rfl
    | cons x l ih =>
      intro acc
      rw [List.foldl_cons, ih]
      simp only [chStep, List.length_append, List.length_cons, List.length_nil]
      omega
  rw [chainF, gen]
  simp
theorem chain_app (xs ys : List En) : ∃ zs, chainF (xs ++ ys) = chainF xs ++ zs := by
  have gen : ∀ (l : List En) (acc : List Int), ∃ zs, l.foldl chStep acc = acc ++ zs := by
    intro l
    induction l with
    | nil => intro acc; exact ⟨[], by simp⟩
    | cons x l ih =>
      intro acc
      obtain ⟨zs, e⟩ := ih (chStep acc x)
      refine ⟨[mrk ((strI (lastC acc) ++ " ") ++ showEn x)] ++ zs, ?_⟩
      rw [List.foldl_cons, e]
      simp [chStep]
  obtain ⟨zs, e⟩ := gen ys (chainF xs)
  refine ⟨zs, ?_⟩
  unfold chainF at e ⊢
  rw [List.foldl_append, e]
theorem chain_take (xs : List En) (n : Nat) : chainF (xs.take n) = (chainF xs).take n := by
  obtain ⟨zs, e⟩ := chain_app (xs.take n) (xs.drop n)
  have e : chainF xs = chainF (xs.take n) ++ zs := by
    rw [← e, List.take_append_drop]
  have hl := chain_len (xs.take n)
  generalize chainF (xs.take n) = q at e hl ⊢
  rw [e]
  by_cases h : n ≤ xs.length
  · rw [List.length_take] at hl
    rw [List.take_append_of_le_length (by omega)]
    exact (List.take_of_length_le (by omega)).symm
  · rw [List.length_take] at hl
    have : zs = [] := by
      have h1 := chain_len xs
      rw [e, List.length_append] at h1
      exact List.eq_nil_of_length_eq_zero (by omega)
    rw [this, List.append_nil]
    exact (List.take_of_length_le (by omega)).symm
theorem last_snoc (l : List Int) (i : Int) : lastC (l ++ [i]) = i := by rw [lastC, List.getLastD_concat]
theorem last_range (xs : List En) : 0 ≤ lastC (chainF xs) ∧ lastC (chainF xs) < 2305843009213693951 := by
  rcases List.eq_nil_or_concat xs with e | ⟨ys, y, e⟩
  · subst e
    decide
  · rw [e, List.concat_eq_append, chain_snoc, lastC, List.getLastD_concat]
    exact mrk_range _
theorem log_int {i : Int} (h0 : 0 ≤ i) (h : i < 2305843009213693951) : i.natAbs.log2 < 1920 := by
  have := log_small (n := i.natAbs) (by omega)
  have e : ((i.natAbs : Nat) : Int).natAbs = i.natAbs := rfl
  rw [e] at this
  exact this
theorem strI_len {i : Int} (h0 : 0 ≤ i) (h : i < 2305843009213693951) : (strI i).length ≤ 19 := toString_length_le h0 (by decide) (Int.lt_trans h (by decide))
theorem emp_app (s : Str) : Str.empty ++ s = s := str_ext (by
  show (Str.empty.cps ++ s.cps).toList = _
  simp [Str.empty])
def cMark : Ct := fun ds S Φ Ψ => ∃ s : Str, ds = [.str s] ∧ Φ (.int (mrk s)) S
def cChain : Ct := fun ds S Φ Ψ => ∃ d, ∃ xs : List En, ds = [d] ∧ LstD S d (xs.map enD) ∧ (∀ x ∈ xs, EnOk x) ∧ xs.length ≤ 60 ∧ ∀ S' l, Keep S S' → S.length ≤ l → S'[l]? = some (.lst ((chainF xs).map D.int)) → Φ (.ptr l) S'
def optD : Option Nat → D
  | none => .non
  | some n => .int (n : Nat)
def partF (xs ys : List Int) : Option Nat := ((xs.zip ys).findIdx? fun p => decide (p.1 ≠ p.2)).map (· + 1)
def cPart : Ct := fun ds S Φ Ψ => ∃ d d2, ∃ xs ys : List Int, ds = [d, d2] ∧ LstD S d (xs.map D.int) ∧ LstD S d2 (ys.map D.int) ∧ xs.length ≤ 1000 ∧ Φ (optD (partF xs ys)) S
theorem part_at {xs ys : List Int} {i : Nat} {x y : Int} (h : ∀ j, j < i → xs[j]? = ys[j]?) (hx : xs[i]? = some x) (hy : ys[i]? = some y) (n : x ≠ y) : partF xs ys = some (i + 1) := by
  unfold partF
  have hz : (xs.zip ys)[i]? = some (x, y) := by rw [List.getElem?_zip_eq_some]; exact ⟨hx, hy⟩
  have : (xs.zip ys).findIdx? (fun p => decide (p.1 ≠ p.2)) = some i := by
    rw [List.findIdx?_eq_some_iff_getElem]
    obtain ⟨hl, e⟩ := List.getElem?_eq_some_iff.mp hz
    refine ⟨hl, by rw [e]; simpa using n, fun j hj => ?_⟩
    have hjl : j < (xs.zip ys).length := by omega
    have hq : (xs.zip ys)[j]? = some ((xs.zip ys)[j]) := List.getElem?_eq_getElem hjl
    generalize (xs.zip ys)[j] = q at hq ⊢
    obtain ⟨a, b⟩ := q
    rw [List.getElem?_zip_eq_some] at hq
    have := h j hj
    rw [hq.1, hq.2] at this
    have e2 : a = b := Option.some.inj this
    simp [e2]
  rw [this]
  rfl
theorem part_none {xs ys : List Int} (h : ∀ j, j < min xs.length ys.length → xs[j]? = ys[j]?) : partF xs ys = none := by
  unfold partF
  have : (xs.zip ys).findIdx? (fun p => decide (p.1 ≠ p.2)) = none := by
    rw [List.findIdx?_eq_none_iff]
    rintro ⟨a, b⟩ hm
    obtain ⟨j, hl, e⟩ := List.mem_iff_getElem.mp hm
    have hq : (xs.zip ys)[j]? = some (a, b) := by rw [List.getElem?_eq_getElem hl, e]
    rw [List.length_zip] at hl
    rw [List.getElem?_zip_eq_some] at hq
    have := h j hl
    rw [hq.1, hq.2] at this
    have e2 : a = b := Option.some.inj this
    simp [e2]
  rw [this]
  rfl
section
variable {P : Program} {w : World} {K : PySem.W.Frag} {mg : Str → Option Value} {base : Heap} {f : Addr} {fd : FuncData}
theorem scMark : FnScope ["text", "found", "sign"] ["text"] (defScope s_mark) := ⟨rfl, rfl, rfl, by decide +kernel, rfl, by decide +kernel, by decide +kernel⟩
theorem ok_mark (F : FnP K "mark" s_mark f fd) (hm : mg "mark" = some (.ref f)) (g1 : GI mg "BEGIN" 7) (g2 : GI mg "BASE" 1000003) (g3 : GI mg "MODULUS" 2305843009213693951) (gOrd : mg "ord" = none) : Has P w K mg base 1 "mark" ["text"] cMark := by
  refine fnH_of ["text", "found", "sign"] F hm cMark (fun _ _ _ _ _ _ us hl => match us, hl with | [_], _ => rfl) scMark (fun ds S Φ Ψ h => by obtain ⟨s, rfl, _⟩ := h; rfl) ?_
  intro cdv A outer s H E hr ds S Φ Ψ ⟨x, ed, k⟩
  subst ed
  refine wb_cons (ws_set 1 scMark.nd (we_globI g1 ?_))
  refine wb_cons (ws_forI (passes_of rfl) rfl (wi_str (we_name 0 rfl ⟨x, rfl, fun i Γ' S' => S' = S ∧ ∃ sg, Γ' = [some (.str x), some (.int ((x.cps.toList.take i).foldl mstep 7)), sg], ?_, ?_, ?_, ?_⟩)))
  · exact ⟨rfl, _, rfl⟩
  · intros; trivial
  · rintro i d Γ' S' hd ⟨rfl, sg, rfl⟩
    have hc : ∃ c, x.cps.toList[i]? = some c ∧ d = .str ⟨#[c]⟩ := by
      simp only [charsD, List.getElem?_map, Option.map_eq_some_iff] at hd
      obtain ⟨c, h1, h2⟩ := hd
      exact ⟨c, h1, h2.symm⟩
    obtain ⟨c, hc, rfl⟩ := hc
    refine wg_name 2 ?_ scMark.nd
    refine wb_cons (ws_set 1 scMark.nd ?_)
    refine we_bin op_mod (we_bin op_add (we_bin op_add (we_bin op_mul (we_name 1 rfl (we_globI g2 (r2_int (.inr ⟨by decide, by decide⟩) ?_))))))
    refine we_ord rfl gOrd (we_name 2 rfl ⟨_, rfl, rfl, r2_int0 (we_int (r2_int0 (we_globI g3 (r2_int (by decide) (wb_nil ?_)))))⟩)
    refine ⟨rfl, some (.str ⟨#[c]⟩), ?_⟩
    have : x.cps.toList.take (i + 1) = x.cps.toList.take i ++ [c] := by rw [List.take_succ, hc]; rfl
    rw [this, List.foldl_append]
    rfl
  · rintro Γ' S' ⟨rfl, sg, rfl⟩
    refine wb_cons (ws_ret (we_name 1 rfl ?_))
    have : (charsD x).length = x.cps.toList.length := by simp [charsD]
    rw [this, List.take_length]
    exact k
abbrev nChain : List Str := ["entries", "found", "last", "entry"]
theorem scChain : FnScope nChain ["entries"] (defScope s_chain_of) := ⟨rfl, rfl, rfl, by decide +kernel, rfl, by decide +kernel, by decide +kernel⟩
theorem ok_chain (F : FnP K "chain_of" s_chain_of f fd) (hm : mg "chain_of" = some (.ref f)) (hM : Has P w K mg base 1 "mark" ["text"] cMark) (hS : Has P w K mg base 6 "show_entry" ["entry"] cShowEn) : Has P w K mg base 7 "chain_of" ["entries"] cChain := by
  refine fnH_of nChain F hm cChain (fun _ _ _ _ _ _ us hl => match us, hl with | [_], _ => rfl) scChain (fun ds S Φ Ψ h => by obtain ⟨_, _, rfl, _⟩ := h; rfl) ?_
  intro cdv A outer s H E hr ds S Φ Ψ ⟨d, xs, ed, hd, hx, hz, k⟩
  subst ed
  have nd := scChain.nd
  refine wb_cons (ws_set 1 nd (we_lstC (wa_nil ⟨by simp, ?_⟩)))
  refine wb_cons (ws_set 2 nd (we_int ?_))
  refine wb_cons (ws_forI (passes_of rfl) rfl (wi_list (we_name 0 rfl ⟨xs.map enD, lst_keep hd (Keep.refl.push), fun i Γ' S' => ∃ a, Γ' = [some d, some (.ptr S.length), some (.int (lastC (chainF (xs.take i)))), a] ∧ Keep S S' ∧ S'[S.length]? = some (.lst ((chainF (xs.take i)).map D.int)), ?_, ?_, ?_, ?_⟩)))
  · exact ⟨_, rfl, Keep.refl.push, get_new⟩
  · rintro i Γ' S' _ ⟨a, rfl, kp, _⟩
    exact lst_keep hd kp
  · rintro i y Γ' S' hy ⟨a, rfl, kp, hc⟩
    rw [List.getElem?_map, Option.map_eq_some_iff] at hy
    obtain ⟨x, hxi, rfl⟩ := hy
    have ok := hx x (List.mem_of_getElem? hxi)
    have hl := en_len ok
    obtain ⟨b1, b2⟩ := last_range (xs.take i)
    have hs := strI_len b1 b2
    have e0 : Str.empty.length = 0 := rfl
    have e1 : (" " : Str).length = 1 := rfl
    refine wg_name 3 ?_ nd
    refine wb_cons (ws_set 2 nd (we_callH hM (hr.mono (by decide)) (wa_cons (we_bin op_add_str (we_fstr ?_)))))
    refine we_fmt (we_name 2 rfl (.inr ⟨_, rfl, log_int b1 b2, ?_⟩))
    refine ⟨strI (lastC (chainF (xs.take i))), rfl, by rw [e0]; omega, we_str ⟨_, rfl, by simp only [str_len_append, e0, e1]; omega, ?_⟩⟩
    refine we_callH hS hr (wa_cons (we_name 3 rfl (wa_nil ⟨x, ok, rfl, fun S2 k2 => r2_addS (by simp only [str_len_append, e0, e1]; omega) ?_⟩)))
    refine wa_nil ⟨_, rfl, ?_⟩
    have hc2 := k2.get hc
    refine wb_cons (ws_expr (we_append (we_name 1 rfl ⟨S.length, rfl, ⟨_, hc2⟩, we_name 2 rfl ⟨_, hc2, ?_, wb_nil ⟨some (enD x), ?_, (kp.trans k2).set (Nat.le_refl _), ?_⟩⟩⟩)))
    · rw [List.length_map, chain_len, List.length_take]
      omega
    · rw [take_snoc hxi, chain_snoc, last_snoc, emp_app]
      rfl
    · rw [take_snoc hxi, chain_snoc, List.map_append, emp_app]
      exact get_set hc2
  · rintro Γ' S' ⟨a, rfl, kp, hc⟩
    rw [List.length_map, List.take_length] at hc
    exact wb_cons (ws_ret (we_name 1 rfl (k S' S.length kp (Nat.le_refl _) hc)))
abbrev nPart : List Str := ["one", "other", "place", "left", "right"]
theorem scPart : FnScope nPart ["one", "other"] (defScope s_parting) := ⟨rfl, rfl, rfl, by decide +kernel, rfl, by decide +kernel, by decide +kernel⟩
theorem ok_part (F : FnP K "parting" s_parting f fd) (hm : mg "parting" = some (.ref f)) (gE : mg "enumerate" = none) (gZ : mg "zip" = none) : Has P w K mg base 1 "parting" ["one", "other"] cPart := by
  refine fnH_of nPart F hm cPart (fun _ _ _ _ _ _ us hl => match us, hl with | [_, _], _ => rfl) scPart (fun ds S Φ Ψ h => by obtain ⟨_, _, _, _, rfl, _⟩ := h; rfl) ?_
  intro cdv A outer s H E hr ds S Φ Ψ ⟨d, d2, xs, ys, ed, hd, hd2, hz, k⟩
  subst ed
  have nd := scPart.nd
  refine wb_cons (ws_forI (passes_of rfl) rfl (wi_enumZ rfl gE rfl gZ (we_name 0 rfl (we_name 1 rfl ⟨xs.map D.int, ys.map D.int, hd, hd2, fun i Γ' S' => S' = S ∧ (∃ a b c, Γ' = [some d, some d2, a, b, c]) ∧ ∀ j, j < i → xs[j]? = ys[j]?, ?_, ?_, ?_, ?_⟩))))
  · exact ⟨rfl, ⟨_, _, _, rfl⟩, fun j hj => absurd hj (by omega)⟩
  · rintro i Γ' S' _ ⟨rfl, _, _⟩
    exact ⟨hd, hd2⟩
  · rintro i z Γ' S' hz2 ⟨rfl, ⟨a, b, c, rfl⟩, hj⟩
    obtain ⟨q, hq, rfl⟩ := enumD_inv hz2
    obtain ⟨x', y', hx, hy, rfl⟩ := zipD_inv hq
    rw [List.getElem?_map, Option.map_eq_some_iff] at hx hy
    obtain ⟨x, hx, rfl⟩ := hx
    obtain ⟨y, hy, rfl⟩ := hy
    have hi := lt_of_some hx
    refine wg_tup rfl (wgs_cons (wg_name 2 (wgs_cons (wg_tup rfl (wgs_cons (wg_name 3 (wgs_cons (wg_name 4 (wgs_nil (wgs_nil ?_)) nd)) nd))) ) nd))
    refine wb_cons (ws_if (wt_cmp op_ne rfl (we_name 3 rfl (we_name 4 rfl (r2_neI ⟨_, rfl, ifD ?_⟩)))))
    by_cases e : x = y
    · refine .inr ⟨by simp [e], wb_nil (wb_nil ⟨rfl, ⟨_, _, _, rfl⟩, fun j hj2 => ?_⟩)⟩
      rcases Nat.lt_succ_iff_lt_or_eq.mp hj2 with z | z
      · exact hj j z
      · rw [z, hx, hy, e]
    · refine .inl ⟨by simp [e], wb_cons (ws_ret (we_bin op_add (we_name 2 rfl (we_int (r2_int0 ?_)))))⟩
      have := part_at hj hx hy e
      rw [this] at k
      have e2 : ((i : Nat) : Int) + 1 = ((i + 1 : Nat) : Int) := by omega
      rw [e2]
      exact k
  · rintro Γ' S' ⟨rfl, _, hj⟩
    rw [enumD_len, zipD_len, List.length_map, List.length_map] at hj
    refine wb_cons (ws_ret (we_non ?_))
    rw [part_none hj] at k
    exact k
end
end Wy
set_option Elab.async false
set_option linter.all false
set_option maxRecDepth 100000
set_option maxHeartbeats 4000000
namespace Wy
open PySem PySem.Spec PyProof.Rows L2 Ab
/-! ### the wares of entries, the registry -/
def isPut : En → Bool
  | .put _ => true
  | .warn _ _ _ => false
def putW : En → D
  | .put q => waD q
  | .warn _ _ _ => .non
def putsOf : List En → List Wa
  | [] => []
  | .put q :: xs => q :: putsOf xs
  | .warn _ _ _ :: xs => putsOf xs
theorem puts_map : ∀ xs : List En, (xs.filter isPut).map putW = (putsOf xs).map waD
  | [] => rfl
  | .put q :: xs => by
    rw [List.filter_cons_of_pos (by rfl), List.map_cons, puts_map xs]
    rfl
  | .warn _ _ _ :: xs => by
    rw [List.filter_cons_of_neg (by simp [isPut])]
    exact puts_map xs
theorem puts_mem : ∀ {xs : List En} {q : Wa}, q ∈ putsOf xs → En.put q ∈ xs
  | .put q :: xs, p, h => by
    rcases List.mem_cons.mp h with e | h
    · rw [e]; exact List.mem_cons_self
    · exact List.mem_cons_of_mem _ (puts_mem h)
  | .warn _ _ _ :: xs, p, h => List.mem_cons_of_mem _ (puts_mem (xs := xs) h)
theorem puts_len : ∀ xs : List En, (putsOf xs).length ≤ xs.length
  | [] => Nat.le_refl _
  | .put q :: xs => Nat.succ_le_succ (puts_len xs)
  | .warn _ _ _ :: xs => Nat.le_succ_of_le (puts_len xs)
def wkOf (q : Wa) : WK := ⟨q.name, (q.ed.a : Nat), (q.ed.b : Nat), (q.ed.c : Nat), .tup (q.needs.map ndD), [.tup (q.extras.map exD), .tup (q.files.map flD), .tup (q.steps.map stD)]⟩
theorem wk_wa (q : Wa) : wkD (wkOf q) = waD q := rfl
theorem perm_pull {α β : Type} (f : α → β) : ∀ {xs : List α} {zs : List β}, zs.Perm (xs.map f) → ∃ ys : List α, ys.Perm xs ∧ zs = ys.map f := by
  intro xs zs h
  have := h.symm
  generalize e : xs.map f = ms at this
  induction this generalizing xs with
  | nil => exact ⟨[], by rw [List.map_eq_nil_iff.mp e], rfl⟩
  | cons x _ ih =>
    cases xs with
    | nil => cases e
    | cons a xs =>
      rw [List.map_cons, List.cons.injEq] at e
      obtain ⟨ys, p, e2⟩ := ih (by rw [e.2]; exact List.Perm.symm (by assumption)) e.2
      exact ⟨a :: ys, p.cons a, by rw [List.map_cons, e.1, e2]⟩
  | swap x y l =>
    cases xs with
    | nil => cases e
    | cons a xs =>
      cases xs with
      | nil => cases e
      | cons b xs =>
        simp only [List.map_cons, List.cons.injEq] at e
        exact ⟨b :: a :: xs, List.Perm.swap _ _ _, by simp [e.1, e.2.1, e.2.2]⟩
  | trans p1 p2 ih1 ih2 =>
    obtain ⟨ys, q1, e1⟩ := ih1 (by rw [e]; exact p1.symm) e
    obtain ⟨ws, q2, e2⟩ := ih2 (by rw [← e1]; exact p2.symm) e1.symm
    exact ⟨ws, q2.trans q1, e2⟩
theorem hu80 {k : Nat} {A : Around} (hr : Room k A) : A.units + 80 < cLine := by
  have := Ab.hu_of hr
  omega
theorem hdp5 {k : Nat} {A : Around} (hr : Room k A) : A.depth < recursionLimit := by
  have := hr.dp
  omega
theorem put_eq : decide (("put" : Str) = "put") = true := by decide +kernel
theorem warn_ne : decide (("warn" : Str) = "put") = false := by decide +kernel
/-- the table of lambdas, the first cell -/
abbrev lamN : Str := "wares_of.<locals>.<lambda>"
abbrev tbC (T : Addr) : Cell := .tbl T lamN
def cWares (T : Addr) : Ct := fun ds S Φ Ψ => ∃ d, ∃ xs : List En, ds = [d] ∧ LstD S d (xs.map enD) ∧ xs.length ≤ 60 ∧ S[0]? = some (tbC T) ∧ ∀ (S' : List Cell) (zs : List Wa), Keep S S' → zs.Perm (putsOf xs) → Φ (.lst (zs.map waD)) S'
section
variable {P : Program} {w : World} {K : PySem.W.Frag} {mg : Str → Option Value} {base : Heap} {f : Addr} {fd : FuncData}
abbrev nWares : List Str := ["entries", "entry"]
theorem scWares : FnScope nWares ["entries"] (defScope s_wares_of) := ⟨rfl, rfl, rfl, by decide +kernel, rfl, by decide +kernel, by decide +kernel⟩
theorem ok_wares {T c : Addr} (F : FnP K "wares_of" s_wares_of f fd) (hm : mg "wares_of" = some (.ref f)) (gS : mg "sorted" = none) (TB : LamX.TabB base mg c T) (hc : fd.code = .ref c) : Has P w K mg base 1 "wares_of" ["entries"] (cWares T) := by
  refine fnHc_of nWares F hm (cWares T) (fun _ _ _ _ _ _ us hl => match us, hl with | [_], _ => rfl) scWares (fun ds S Φ Ψ h => by obtain ⟨_, _, rfl, _⟩ := h; rfl) ?_
  intro A outer s H E hr ds S Φ Ψ ⟨d, xs, ed, hd, hz, h0, k⟩
  subst ed
  have nd := scWares.nd
  refine wb_cons (ws_ret (we_sortCut (l := 0) (hu80 hr) (hdp5 hr) rfl gS TB hc ?_))
  refine we_lc (own := [("entry", 1)]) (g := gName 1) rfl nd (blkOk_by (N := nWares) (sc := defScope s_wares_of) (by decide +kernel)) (fun _ _ _ _ _ => pg_name nd rfl (.inl rfl) (.inr rfl)) ?_
  refine wi_list (we_name 0 rfl ⟨xs.map enD, hd, lc_filterE enD xs rfl isPut putW (by rw [List.length_map]; omega) (fun S' kp => lst_keep hd kp) (fun i x S' hx kp => ?_) fun S1 k1 => ?_⟩)
  · refine ⟨_, tc_name (by decide), fun s H0 C cl fp => wt_cmp op_eq rfl (we_ix ix_tup (we_name 1 rfl (we_int ?_)))⟩
    cases x with
    | put q => exact r2_ixT rfl (we_str (r2_eqS ⟨_, rfl, put_eq, kp, fun _ s H0 C cl fp => we_ix ix_tup (we_name 1 rfl (we_int (r2_ixT rfl ⟨rfl, kp⟩)))⟩))
    | warn n r t => exact r2_ixT rfl (we_str (r2_eqS ⟨_, rfl, warn_ne, kp, fun z => by cases z⟩))
  · refine ⟨k1.get h0, (putsOf xs).map wkOf, ?_, ?_, fun zs hp => ?_⟩
    · rw [puts_map, List.map_map]
      rfl
    · have := puts_len xs
      rw [List.length_map]
      omega
    · obtain ⟨ys, hy, e⟩ := perm_pull wkOf hp
      rw [e, List.map_map]
      exact k S1 ys k1 hy
end
end Wy
set_option Elab.async false
set_option linter.all false
set_option maxRecDepth 100000
set_option maxHeartbeats 4000000
namespace Wy
open PySem PySem.Spec PyProof.Rows L2 Ab
/-! ### the registry -/
abbrev keyWD (q : Wa) : D := .tup [.str q.name, edD q.ed]
theorem key_eqv (p q : Wa) : PyData.eqv (toPy (keyWD p)) (toPy (keyWD q)) = (decide (p.name = q.name) && decide (p.ed = q.ed)) := by
  show (PyData.eqv (toPy (.str p.name)) (toPy (.str q.name)) && (PyData.eqv (toPy (edD p.ed)) (toPy (edD q.ed)) && true)) = _
  rw [ed_eqv, Bool.and_true]
  congr 1
theorem key_plain {q : Wa} (h : WaOk q) : plainD (keyWD q) = true := by
  show (PyData.strOk q.name && (true && true)) = true
  rw [h.nm.sok]
  rfl
theorem key_dep (q : Wa) : depD (keyWD q) ≤ 2 := Nat.le_refl _
theorem keys_ok {l : List Wa} (h : ∀ q ∈ l, WaOk q) : okD (.lst (l.map keyWD)) = true := okD_of (plain_map fun q hq => key_plain (h q hq)) (Nat.le_trans (Nat.succ_le_succ (dep_map (k := 2) fun q _ => key_dep q)) (by decide))
/-- the rows of a registry at l: the cell r -/
abbrev rowsF (r : Nat) : List (Str × D) := [("rows", .ptr r)]
def Fresh (xs : List En) (q : Wa) : Prop := ∀ p ∈ putsOf xs, ¬ (p.name = q.name ∧ p.ed = q.ed)
def cPut (C T : Addr) : Ct := fun ds S Φ Ψ => ∃ l r, ∃ xs : List En, ∃ q : Wa, ds = [.ptr l, waD q] ∧ S[l]? = some (.ins C (rowsF r)) ∧ S[r]? = some (.lst (xs.map enD)) ∧ S[0]? = some (tbC T) ∧ WaOk q ∧ (∀ x ∈ xs, EnOk x) ∧ xs.length ≤ 50 ∧ Fresh xs q ∧
  ∀ S', But r r S S' → S'[r]? = some (.lst ((xs ++ [En.put q]).map enD)) → Φ (.int ((xs.length + 1 : Nat))) S'
def cWarn (C : Addr) : Ct := fun ds S Φ Ψ => ∃ l r, ∃ xs : List En, ∃ n g t, ds = [.ptr l, .str n, rgD g, .str t] ∧ S[l]? = some (.ins C (rowsF r)) ∧ S[r]? = some (.lst (xs.map enD)) ∧ NameOk n ∧ RgOk g ∧ TextOk t ∧ xs.length ≤ 50 ∧
  ∀ S', But r r S S' → S'[r]? = some (.lst ((xs ++ [En.warn n g t]).map enD)) → Φ (.int ((xs.length + 1 : Nat))) S'
/-- what the registry's rows are -/
def RowsOk : List En → Prop
  | [] => True
  | x :: xs => EnOk x ∧ RowsOk xs
theorem but_push {a b : Nat} {S : List Cell} {c : Cell} : But a b S (S ++ [c]) := But.of_keep Keep.refl.push
theorem app_map {xs : List En} {x : En} {d : D} (h : enD x = d) : xs.map enD ++ [d] = (xs ++ [x]).map enD := by
  rw [List.map_append, List.map_singleton, h]
section
variable {P : Program} {w : World} {K : PySem.W.Frag} {mg : Str → Option Value} {base : Heap} {f : Addr} {fd : FuncData} {C T : Addr}
abbrev nPut : List Str := ["self", "ware", "one"]
theorem scPut : FnScope nPut ["self", "ware"] (defScope m_Registry_put) := ⟨rfl, rfl, rfl, by decide +kernel, rfl, by decide +kernel, by decide +kernel⟩
theorem ok_put (F : FnM K "put" "Registry.put" m_Registry_put f fd) (hm : Meth K C "put" f) (cl : Cls K C) (n1 : NoAttr K C "rows") (gL : mg "len" = none) (hW : Has P w K mg base 9 "is_ware" ["thing"] cIsWare) (hWs : Has P w K mg base 1 "wares_of" ["entries"] (cWares T)) : HasM P w K mg base 10 C "put" ["self", "ware"] (cPut C T) := by
  refine fnM_of nPut F hm (cPut C T) (fun _ _ _ _ _ _ us hl => match us, hl with | [_, _], _ => rfl) scPut (fun ds S Φ Ψ h => by obtain ⟨_, _, _, _, rfl, _⟩ := h; rfl) ?_
  intro cdv A outer s H E hr ds S Φ Ψ ⟨l, r, xs, q, ed, gl, gr, g0, hq, hx, hz, fr, k⟩
  subst ed
  have nd := scPut.nd
  refine wb_cons (ws_ifF (wt_notF (wt_val (we_callH hW hr (wa_cons (we_name 1 rfl (wa_nil ⟨q, hq, rfl, fun S1 k1 => ⟨true, rfl, rfl, wb_nil ?_⟩⟩)))))))
  refine wb_cons (ws_ifF (wt_cmp (op_inD (by have := hu80 hr; show A.units + 3 + 65 < cLine; have e : (A.deeper (envOfC "Registry.put" (defScope m_Registry_put) s.heap.objs.size f cdv)).units = A.units + 3 := rfl; omega)) rfl (we_slice sl_tupA (we_name 1 rfl (we_int ⟨2, rfl, rs_tup ?_⟩)))))
  refine we_lc (own := [("one", 2)]) (g := gName 2) rfl nd (blkOk_by (N := nPut) (sc := defScope m_Registry_put) (by decide +kernel)) (fun _ _ _ _ _ => pg_name nd rfl (.inl rfl) (.inr rfl)) ?_
  refine wi_list (we_callH hWs (hr.mono (by decide)) (wa_cons (we_fld cl n1 (we_name 0 rfl ⟨_, _, ⟨l, rfl, k1.get gl⟩, rfl, wa_nil ⟨.ptr r, xs, rfl, k1.get gr, by omega, k1.get g0, fun S2 zs k2 hp => ⟨zs.map waD, rfl, lc_mapE waD zs rfl keyWD ?_ (fun _ _ => rfl) (fun i p S3 hp2 k3 => ⟨_, tc_name (by decide), fun s H0 C cl fp => we_slice sl_tupA (we_name 2 rfl (we_int ⟨2, rfl, rs_tup ⟨rfl, k3⟩⟩))⟩) fun S3 k3 => ?_⟩⟩⟩))))
  · have h1 := hp.length_eq
    have h2 := puts_len xs
    rw [List.length_map]
    omega
  have hzs : ∀ p ∈ zs, WaOk p := fun p hp2 => hx _ (puts_mem (hp.mem_iff.mp hp2))
  refine r2_inD (d := keyWD q) (ds := zs.map keyWD) rfl rfl (okD_of (key_plain hq) (Nat.le_trans (key_dep q) (by decide))) (keys_ok hzs) (b := false) ?_ ⟨false, rfl, rfl, wb_nil ?_⟩
  · rw [List.any_eq_false]
    intro z hz2
    obtain ⟨p, hp2, rfl⟩ := List.mem_map.mp hz2
    rw [key_eqv]
    have := fr p (hp.mem_iff.mp hp2)
    simpa using this
  have k13 := k1.trans (k2.trans k3)
  refine wb_cons (ws_expr (we_append (we_fld cl n1 (we_name 0 rfl ⟨_, _, ⟨l, rfl, k13.get gl⟩, rfl, r, rfl, ⟨_, k13.get gr⟩, we_tup (wa_cons (we_str (wa_cons (we_name 1 rfl (wa_nil ⟨by simp, xs.map enD, k13.get gr, ?_, ?_⟩)))))⟩))))
  · rw [List.length_map]; omega
  have nlr : l ≠ r := fun z => by
    rw [z, gr] at gl
    cases gl
  rw [show xs.map enD ++ [.tup [.str "put", waD q]] = (xs ++ [En.put q]).map enD from app_map rfl]
  refine wb_cons (ws_ret (we_len rfl gL (we_fld cl n1 (we_name 0 rfl ⟨_, _, ⟨l, rfl, get_set_ne (k13.get gl) (fun z => nlr z.symm)⟩, rfl, (xs ++ [En.put q]).map enD, lst_seq (x := .ptr r) (get_set (k13.get gr)), ?_⟩))))
  have e : ((xs ++ [En.put q]).map enD).length = xs.length + 1 := by simp
  rw [e]
  exact k _ ((But.of_keep k13).trans But.set1) (get_set (k13.get gr))
abbrev nWarn : List Str := ["self", "name", "span", "text"]
theorem scWarn : FnScope nWarn nWarn (defScope m_Registry_warn) := ⟨rfl, rfl, rfl, by decide +kernel, rfl, by decide +kernel, by decide +kernel⟩
theorem ok_warn (F : FnM K "warn" "Registry.warn" m_Registry_warn f fd) (hm : Meth K C "warn" f) (cl : Cls K C) (n1 : NoAttr K C "rows") (gL : mg "len" = none) (hN : Has P w K mg base 1 "is_name" ["thing"] cIsName) (hR : Has P w K mg base 3 "is_range" ["thing"] cIsRg) (hX : Has P w K mg base 1 "is_text" ["thing"] cIsText) : HasM P w K mg base 4 C "warn" nWarn (cWarn C) := by
  refine fnM_of nWarn F hm (cWarn C) (fun _ _ _ _ _ _ us hl => match us, hl with | [_, _, _, _], _ => rfl) scWarn (fun ds S Φ Ψ h => by obtain ⟨_, _, _, _, _, _, rfl, _⟩ := h; rfl) ?_
  intro cdv A outer s H E hr ds S Φ Ψ ⟨l, r, xs, n, g, t, ed, gl, gr, hn, hg, ht, hz, k⟩
  subst ed
  have nd := scWarn.nd
  refine wb_cons (ws_ifF (wt_ww (ww_orF (wt_notF (wt_val (we_callH hN (hr.mono (by decide)) (wa_cons (we_name 1 rfl (wa_nil ⟨n, hn, rfl, fun S1 k1 => ⟨true, rfl, rfl, ?_⟩⟩)))))))))
  refine ww_orF (wt_notF (wt_val (we_callH hR hr (wa_cons (we_name 2 rfl (wa_nil ⟨g, hg, rfl, fun S2 k2 => ⟨true, rfl, rfl, ?_⟩⟩))))))
  refine ww_or1F (wt_notF (wt_val (we_callH hX (hr.mono (by decide)) (wa_cons (we_name 3 rfl (wa_nil ⟨t, ht, rfl, fun S3 k3 => ⟨true, rfl, rfl, rfl, wb_nil ?_⟩⟩))))))
  have k13 := k1.trans (k2.trans k3)
  refine wb_cons (ws_expr (we_append (we_fld cl n1 (we_name 0 rfl ⟨_, _, ⟨l, rfl, k13.get gl⟩, rfl, r, rfl, ⟨_, k13.get gr⟩, we_tup (wa_cons (we_str (wa_cons (we_name 1 rfl (wa_cons (we_name 2 rfl (wa_cons (we_name 3 rfl (wa_nil ⟨by simp, xs.map enD, k13.get gr, ?_, ?_⟩)))))))))⟩))))
  · rw [List.length_map]; omega
  have nlr : l ≠ r := fun z => by
    rw [z, gr] at gl
    cases gl
  rw [show xs.map enD ++ [.tup [.str "warn", .str n, rgD g, .str t]] = (xs ++ [En.warn n g t]).map enD from app_map rfl]
  refine wb_cons (ws_ret (we_len rfl gL (we_fld cl n1 (we_name 0 rfl ⟨_, _, ⟨l, rfl, get_set_ne (k13.get gl) (fun z => nlr z.symm)⟩, rfl, (xs ++ [En.warn n g t]).map enD, lst_seq (x := .ptr r) (get_set (k13.get gr)), ?_⟩))))
  have e : ((xs ++ [En.warn n g t]).map enD).length = xs.length + 1 := by simp
  rw [e]
  exact k _ ((But.of_keep k13).trans But.set1) (get_set (k13.get gr))
end
end Wy
set_option Elab.async false
set_option linter.all false
set_option maxRecDepth 100000
set_option maxHeartbeats 4000000
namespace Wy
open PySem PySem.Spec PyProof.Rows L2 Ab
/-! ### the registry made; what both tell; Forked made -/
def AllFresh (xs : List En) : Prop := ∀ (i : Nat) (q : Wa), xs[i]? = some (.put q) → Fresh (xs.take i) q
theorem But.step {l r : Nat} {S S1 S2 : List Cell} (h : But l l S S1) (k : But r r S1 S2) (hr : S.length ≤ r) : But l l S S2 :=
  ⟨Nat.le_trans h.len k.len, fun j hj h1 h2 => by
    have := h.len
    rw [k.at_ j (by omega) (by omega) (by omega)]
    exact h.at_ j hj h1 h2⟩
def cRegInit (C T : Addr) : Ct := fun ds S Φ Ψ => ∃ l, ∃ xs : List En, ds = [.ptr l, .tup (xs.map enD)] ∧ S[l]? = some (.ins C []) ∧ S[0]? = some (tbC T) ∧ (∀ x ∈ xs, EnOk x) ∧ xs.length ≤ 50 ∧ AllFresh xs ∧
  ∀ S' r, But l l S S' → S.length ≤ r → S'[l]? = some (.ins C (rowsF r)) → S'[r]? = some (.lst (xs.map enD)) → Φ .non S'
def cMirInit (C : Addr) : Ct := fun ds S Φ Ψ => ∃ l, ds = [.ptr l] ∧ S[l]? = some (.ins C []) ∧ ∀ S' r, But l l S S' → S.length ≤ r → S'[l]? = some (.ins C (rowsF r)) → S'[r]? = some (.lst []) → Φ .non S'
def cEnts (C : Addr) : Ct := fun ds S Φ Ψ => ∃ l d, ∃ xs : List En, ds = [.ptr l] ∧ S[l]? = some (.ins C [("rows", d)]) ∧ LstD S d (xs.map enD) ∧ Φ (.lst (xs.map enD)) S
def cSelfCh (C : Addr) : Ct := fun ds S Φ Ψ => ∃ l d, ∃ xs : List En, ds = [.ptr l] ∧ S[l]? = some (.ins C [("rows", d)]) ∧ LstD S d (xs.map enD) ∧ (∀ x ∈ xs, EnOk x) ∧ xs.length ≤ 60 ∧ ∀ S' c, Keep S S' → S.length ≤ c → S'[c]? = some (.lst ((chainF xs).map D.int)) → Φ (.ptr c) S'
section
variable {P : Program} {w : World} {K : PySem.W.Frag} {mg : Str → Option Value} {base : Heap} {f : Addr} {fd : FuncData} {C T : Addr}
abbrev nRegInit : List Str := ["self", "entries", "head", "parts"]
theorem scRegInit : FnScope nRegInit ["self", "entries"] (defScope m_Registry___init__) := ⟨rfl, rfl, rfl, by decide +kernel, rfl, by decide +kernel, by decide +kernel⟩
theorem ok_regInit {v0 : V} (F : FunD K "__init__" "Registry.__init__" (defArgs m_Registry___init__) (defBody m_Registry___init__) (defScope m_Registry___init__) [] [("entries", v0)] f fd) (hm : mg "Registry" = some (.ref C)) (hk : Mk K C f) (cl : Cls K C) (n1 : NoAttr K C "rows")
    (hP : HasM P w K mg base 10 C "put" ["self", "ware"] (cPut C T)) (hW : HasM P w K mg base 4 C "warn" nWarn (cWarn C)) : HasCK P w K mg base 11 "Registry" C ["self", "entries"] "entries" (cRegInit C T) := by
  refine ⟨f, fd, fnG_of F scRegInit (fun ds S Φ Ψ h => by obtain ⟨_, _, rfl, _⟩ := h; rfl) ?_, hm, hk, kb1_of F 1 fun D doc pm an cdv ct us ws l1 l2 => match us, ws, l1, l2 with | [_], [_], _, _ => rfl⟩
  intro A outer s H E hr ds S Φ Ψ ⟨l, xs, ed, gl, g0, hx, hz, fr, k⟩
  subst ed
  have nd := scRegInit.nd
  have hl := lt_of_get gl
  have hl0 : l ≠ 0 := fun z => by
    rw [z, g0] at gl
    cases gl
  refine wb_cons (ws_fld cl n1 (we_lstC (wa_nil ⟨by simp, we_name 0 rfl ⟨l, [], rfl, get_push gl, by decide, ?_⟩⟩)))
  have g1 : ((S ++ [Cell.lst []]).set l (.ins C (putFD "rows" (.ptr S.length) [])))[l]? = some (.ins C (rowsF S.length)) := get_set (get_push gl)
  have g2 : ((S ++ [Cell.lst []]).set l (.ins C (putFD "rows" (.ptr S.length) [])))[S.length]? = some (.lst []) := get_set_ne get_new (by omega)
  have b1 : But l l S ((S ++ [Cell.lst []]).set l (.ins C (putFD "rows" (.ptr S.length) []))) := ⟨by rw [List.length_set, List.length_append]; omega, fun j hj h1 h2 => by
    rw [List.getElem?_set_ne (fun z => h1 z.symm), List.getElem?_append_left hj]⟩
  generalize (S ++ [Cell.lst []]).set l (.ins C (putFD "rows" (.ptr S.length) [])) = S1 at g1 g2 b1 ⊢
  refine wb_cons (ws_forI (passes_of rfl) rfl (wi_tup (we_name 1 rfl ⟨xs.map enD, rfl, fun i Γ' S' => (∃ a b, Γ' = [some (.ptr l), some (.tup (xs.map enD)), a, b]) ∧ But l l S S' ∧ S'[l]? = some (.ins C (rowsF S.length)) ∧ S'[S.length]? = some (.lst ((xs.take i).map enD)), ?_, fun _ _ _ _ _ => trivial, ?_, ?_⟩)))
  · exact ⟨⟨_, _, rfl⟩, b1, g1, g2⟩
  · rintro i z Γ' S' hz2 ⟨⟨a, b, rfl⟩, bk, gl2, gr2⟩
    rw [List.getElem?_map, Option.map_eq_some_iff] at hz2
    obtain ⟨x, hxi, rfl⟩ := hz2
    have hx1 := hx x (List.mem_of_getElem? hxi)
    have hi := lt_of_some hxi
    have ht : (xs.take i).length ≤ 50 := by rw [List.length_take]; omega
    have h02 : S'[0]? = some (tbC T) := bk.get g0 (fun z => hl0 z.symm) (fun z => hl0 z.symm)
    have hnl : l ≠ S.length := by omega
    cases x with
    | put q =>
      refine wg_starT (ds := [.str "put", waD q]) (n := 2) (j := 1) rfl (by decide) (by simp) (by simp) (wgs_cons (wg_name 2 (wgs_star (wg_name 3 (wgs_nil ?_) nd)) nd))
      refine wb_cons (ws_ifT (wt_cmp op_eq rfl (we_name 2 rfl (we_str (r2_eqS ⟨_, rfl, put_eq, ?_⟩)))))
      refine wb_cons (ws_expr (we_methH hP cl hr (we_name 0 rfl ⟨⟨_, ⟨l, rfl, gl2⟩, rfl⟩, wa_cons (we_ix ix_list (we_name 3 rfl (we_int (r2_ixL (ds := [waD q]) rfl rfl (wa_nil ⟨l, S.length, xs.take i, q, rfl, gl2, gr2, h02, hx1, fun y hy => hx y (List.mem_of_mem_take hy), ht, fr i q hxi, fun S2 b2 g3 => wb_nil (wb_nil ⟨⟨_, _, rfl⟩, But.step bk b2 (Nat.le_refl _), ?_, ?_⟩)⟩)))))⟩)))
      · exact b2.get gl2 hnl hnl
      · rw [take_snoc hxi]
        exact g3
    | warn n r t =>
      obtain ⟨o1, o2, o3⟩ := hx1
      refine wg_starT (ds := [.str "warn", .str n, rgD r, .str t]) (n := 2) (j := 1) rfl (by decide) (by simp) (by simp) (wgs_cons (wg_name 2 (wgs_star (wg_name 3 (wgs_nil ?_) nd)) nd))
      refine wb_cons (ws_ifF (wt_cmp op_eq rfl (we_name 2 rfl (we_str (r2_eqS ⟨_, rfl, warn_ne, ?_⟩)))))
      refine wb_cons (ws_ifF (wt_cmp op_eq rfl (we_name 2 rfl (we_str (r2_eqS ⟨_, rfl, by decide +kernel, ?_⟩)))))
      refine wb_cons (ws_ifT (wt_cmp op_eq rfl (we_name 2 rfl (we_str (r2_eqS ⟨_, rfl, by decide +kernel, ?_⟩)))))
      refine wb_cons (ws_expr (we_methH hW cl (hr.mono (by decide)) (we_name 0 rfl ⟨⟨_, ⟨l, rfl, gl2⟩, rfl⟩, ?_⟩)))
      refine wa_cons (we_ix ix_list (we_name 3 rfl (we_int (r2_ixL (ds := [.str n, rgD r, .str t]) rfl rfl ?_))))
      refine wa_cons (we_ix ix_list (we_name 3 rfl (we_int (r2_ixL (ds := [.str n, rgD r, .str t]) rfl rfl ?_))))
      refine wa_cons (we_ix ix_list (we_name 3 rfl (we_int (r2_ixL (ds := [.str n, rgD r, .str t]) rfl rfl ?_))))
      refine wa_nil ⟨l, S.length, xs.take i, n, r, t, rfl, gl2, gr2, o1, o2, o3, ht, fun S2 b2 g3 => wb_nil (wb_nil (wb_nil (wb_nil ⟨⟨_, _, rfl⟩, But.step bk b2 (Nat.le_refl _), ?_, ?_⟩)))⟩
      · exact b2.get gl2 hnl hnl
      · rw [take_snoc hxi]
        exact g3
  · rintro Γ' S' ⟨⟨a, b, rfl⟩, bk, gl2, gr2⟩
    rw [List.length_map, List.take_length] at gr2
    exact wb_nil (k S' S.length bk (Nat.le_refl _) gl2 gr2)
theorem scMirInit : FnScope ["self"] ["self"] (defScope m_Mirror___init__) := ⟨rfl, rfl, rfl, by decide +kernel, rfl, by decide +kernel, by decide +kernel⟩
theorem ok_mirInit (F : FnM K "__init__" "Mirror.__init__" m_Mirror___init__ f fd) (hm : mg "Mirror" = some (.ref C)) (hk : Mk K C f) (cl : Cls K C) (n1 : NoAttr K C "rows") : HasC P w K mg base 1 "Mirror" C ["self"] (cMirInit C) := by
  refine fnC_of ["self"] F hm hk (cMirInit C) (fun _ _ _ _ _ _ us hl => match us, hl with | [_], _ => rfl) scMirInit (fun ds S Φ Ψ h => by obtain ⟨_, rfl, _⟩ := h; rfl) ?_
  intro cdv A outer s H E hr ds S Φ Ψ ⟨l, ed, gl, k⟩
  subst ed
  have hl := lt_of_get gl
  refine wb_cons (ws_fld cl n1 (we_lstC (wa_nil ⟨by simp, we_name 0 rfl ⟨l, [], rfl, get_push gl, by decide, wb_nil ?_⟩⟩)))
  refine k _ S.length ⟨by rw [List.length_set, List.length_append]; omega, fun j hj h1 h2 => by
    rw [List.getElem?_set_ne (fun z => h1 z.symm), List.getElem?_append_left hj]⟩ (Nat.le_refl _) (get_set (get_push gl)) (get_set_ne get_new (by omega))
theorem ok_ents {q : Str} {st : Stmt} (F : FnM K "entries" q st f fd) (hst : st = m_Registry_entries ∨ st = m_Mirror_entries) (hm : Meth K C "entries" f) (cl : Cls K C) (n1 : NoAttr K C "rows") (gL : mg "list" = none) : HasM P w K mg base 1 C "entries" ["self"] (cEnts C) := by
  rcases hst with rfl | rfl
  · refine fnM_of ["self"] F hm (cEnts C) (fun _ _ _ _ _ _ us hl => match us, hl with | [_], _ => rfl) ⟨rfl, rfl, rfl, by decide +kernel, rfl, by decide +kernel, by decide +kernel⟩ (fun ds S Φ Ψ h => by obtain ⟨_, _, _, rfl, _⟩ := h; rfl) ?_
    intro cdv A outer s H E hr ds S Φ Ψ ⟨l, d, xs, ed, gl, hd, k⟩
    subst ed
    exact wb_cons (ws_ret (we_listF rfl gL (we_fld cl n1 (we_name 0 rfl ⟨_, _, ⟨l, rfl, gl⟩, rfl, _, lst_seq hd, k⟩))))
  · refine fnM_of ["self"] F hm (cEnts C) (fun _ _ _ _ _ _ us hl => match us, hl with | [_], _ => rfl) ⟨rfl, rfl, rfl, by decide +kernel, rfl, by decide +kernel, by decide +kernel⟩ (fun ds S Φ Ψ h => by obtain ⟨_, _, _, rfl, _⟩ := h; rfl) ?_
    intro cdv A outer s H E hr ds S Φ Ψ ⟨l, d, xs, ed, gl, hd, k⟩
    subst ed
    exact wb_cons (ws_ret (we_listF rfl gL (we_fld cl n1 (we_name 0 rfl ⟨_, _, ⟨l, rfl, gl⟩, rfl, _, lst_seq hd, k⟩))))
theorem ok_selfCh {q : Str} {st : Stmt} (F : FnM K "chain" q st f fd) (hst : st = m_Registry_chain ∨ st = m_Mirror_chain) (hm : Meth K C "chain" f) (cl : Cls K C) (n1 : NoAttr K C "rows") (hC : Has P w K mg base 7 "chain_of" ["entries"] cChain) : HasM P w K mg base 8 C "chain" ["self"] (cSelfCh C) := by
  rcases hst with rfl | rfl
  · refine fnM_of ["self"] F hm (cSelfCh C) (fun _ _ _ _ _ _ us hl => match us, hl with | [_], _ => rfl) ⟨rfl, rfl, rfl, by decide +kernel, rfl, by decide +kernel, by decide +kernel⟩ (fun ds S Φ Ψ h => by obtain ⟨_, _, _, rfl, _⟩ := h; rfl) ?_
    intro cdv A outer s H E hr ds S Φ Ψ ⟨l, d, xs, ed, gl, hd, hx, hz, k⟩
    subst ed
    exact wb_cons (ws_ret (we_callH hC hr (wa_cons (we_fld cl n1 (we_name 0 rfl ⟨_, _, ⟨l, rfl, gl⟩, rfl, wa_nil ⟨d, xs, rfl, hd, hx, hz, k⟩⟩)))))
  · refine fnM_of ["self"] F hm (cSelfCh C) (fun _ _ _ _ _ _ us hl => match us, hl with | [_], _ => rfl) ⟨rfl, rfl, rfl, by decide +kernel, rfl, by decide +kernel, by decide +kernel⟩ (fun ds S Φ Ψ h => by obtain ⟨_, _, _, rfl, _⟩ := h; rfl) ?_
    intro cdv A outer s H E hr ds S Φ Ψ ⟨l, d, xs, ed, gl, hd, hx, hz, k⟩
    subst ed
    exact wb_cons (ws_ret (we_callH hC hr (wa_cons (we_fld cl n1 (we_name 0 rfl ⟨_, _, ⟨l, rfl, gl⟩, rfl, wa_nil ⟨d, xs, rfl, hd, hx, hz, k⟩⟩)))))
/-! Forked -/
theorem scForked : FnScope ["self", "at"] ["self", "at"] (defScope m_Forked___init__) := ⟨rfl, rfl, rfl, by decide +kernel, rfl, by decide +kernel, by decide +kernel⟩
theorem ok_forked {CF CY : Addr} (F : FnM K "__init__" "Forked.__init__" m_Forked___init__ f fd) (hm : mg "Forked" = some (.ref CF)) (hmY : mg "YardError" = some (.ref CY)) (hga : PySem.W.specialIn K (.ref CY) "__getattribute__" = some (some (.builtin "type.__getattribute__"))) (hrd : PySem.W.readsIn K CY (.type "type") = true)
    (hfc : PySem.W.findCls K (.ref CY) (.type "type") "__init__" = some (.val (.builtin "ValueError.__init__"))) (T : OexC K CF) (hno : PySem.W.findIn K (.ref CF) "at" = some none) (iC : PySem.W.findIn K (.ref CF) "__init__" = some (some (.ref f))) (tI : PySem.W.typeIn K (.ref f) = some (.type "function")) :
    HasXn P w K mg base 1 "Forked" "at" ["self", "at"] CF := by
  refine ⟨f, fd, F.ok scForked (fun vs H Q E h => by obtain ⟨_, _, _, rfl, _⟩ := h; rfl) (fun cdv A outer s H vs Q E hr h => ?_), hm, T, hno, iC, tI, F.bindsN (fun _ _ _ _ _ _ us hl => match us, hl with | [_, _], _ => rfl)⟩
  obtain ⟨a, C', y, ev, T', hno', ea, q⟩ := h
  subst ev
  refine ⟨_, pss_cons (ps_expr (pe_ownInit rfl hmY hga hrd hfc (pa_cons (pe_var (i := 0) rfl (.inl rfl)) (pa_cons pe_str pa_nil)))) (pss_cons (ps_ost (pe_var (i := 0) rfl (.inl rfl)) (pe_var (i := 1) rfl (.inl rfl))) pss_nil), ?_⟩
  refine ⟨.ref a, rfl, a, C', [.str _], rfl, by decide, T', ea, ?_⟩
  exact ⟨y, rfl, .ref a, rfl, a, C', rfl, T', hno', .inl ⟨ea, fun dx h1 h2 => q dx h1 h2⟩⟩
end
end Wy
set_option Elab.async false
set_option linter.all false
set_option maxRecDepth 100000
set_option maxHeartbeats 4000000
namespace Wy
open PySem PySem.Spec PyProof.Rows L2 Ab
/-! ### a mirror takes -/
def takeF (xs ys : List En) (n : Nat) : Nat ⊕ List En :=
  match partF (chainF xs) (chainF ys) with
  | some k => .inl k
  | none => if ys.length < xs.length then .inl (ys.length + 1) else .inr ((ys.drop xs.length).take n)
def cTake (CM CR CF : Addr) : Ct := fun ds S Φ Ψ => ∃ l l2 d d2, ∃ xs ys : List En, ∃ n : Nat, ds = [.ptr l, .ptr l2, .int (n : Nat)] ∧ S[l]? = some (.ins CM [("rows", d)]) ∧ LstD S d (xs.map enD) ∧ S[l2]? = some (.ins CR [("rows", d2)]) ∧ LstD S d2 (ys.map enD) ∧
  (∀ x ∈ xs, EnOk x) ∧ (∀ x ∈ ys, EnOk x) ∧ xs.length ≤ 60 ∧ ys.length ≤ 60 ∧ n ≤ 1000 ∧
  (∀ k S', takeF xs ys n = .inl k → Keep S S' → Ψ ⟨CF, [("at", .int (k : Nat))]⟩ S') ∧
  ∀ m S', takeF xs ys n = .inr m → Keep S S' → Φ (.int (m.length : Nat)) (S'.set l (.ins CM [("rows", .lst ((xs ++ m).map enD))]))
theorem cut_mid {xs : List D} (a m : Nat) : Ab.cutD xs (some ((a : Nat) : Int)) (some (((a : Nat) : Int) + ((m : Nat) : Int))) = (xs.drop a).take m := by
  unfold Ab.cutD
  have e : ((a : Nat) : Int) + ((m : Nat) : Int) = ((a + m : Nat) : Int) := by omega
  rw [e, HT.sIx_nat, HT.sIx_nat]
  by_cases h : a ≤ xs.length
  · rw [Nat.min_eq_left h]
    by_cases h2 : a + m ≤ xs.length
    · rw [Nat.min_eq_left h2]
      congr 1
      omega
    · rw [Nat.min_eq_right (by omega), List.take_of_length_le (by rw [List.length_drop]; omega), List.take_of_length_le (by rw [List.length_drop]; omega)]
  · rw [Nat.min_eq_right (by omega : xs.length ≤ a + m), Nat.min_eq_right (by omega : xs.length ≤ a), List.drop_of_length_le (Nat.le_refl _), List.drop_of_length_le (by omega)]
    simp
section
variable {P : Program} {w : World} {K : PySem.W.Frag} {mg : Str → Option Value} {base : Heap} {f : Addr} {fd : FuncData} {CM CR CF : Addr}
abbrev nTake : List Str := ["self", "registry", "most", "own", "others", "at", "more"]
theorem scTake : FnScope nTake ["self", "registry", "most"] (defScope m_Mirror_take) := ⟨rfl, rfl, rfl, by decide +kernel, rfl, by decide +kernel, by decide +kernel⟩
theorem ok_take {v0 : V} (F : FunD K "take" "Mirror.take" (defArgs m_Mirror_take) (defBody m_Mirror_take) (defScope m_Mirror_take) [] [("most", v0)] f fd) (hm : Meth K CM "take" f) (cl : Cls K CM) (n1 : NoAttr K CM "rows") (clR : Cls K CR) (gL : mg "len" = none)
    (hCM : HasM P w K mg base 8 CM "chain" ["self"] (cSelfCh CM)) (hCR : HasM P w K mg base 8 CR "chain" ["self"] (cSelfCh CR)) (hER : HasM P w K mg base 1 CR "entries" ["self"] (cEnts CR)) (hP : Has P w K mg base 1 "parting" ["one", "other"] cPart) (hF : HasXn P w K mg base 1 "Forked" "at" ["self", "at"] CF) :
    HasMK P w K mg base 9 CM "take" ["self", "registry", "most"] "most" v0 (cTake CM CR CF) := by
  refine ⟨f, fd, fnG_of F scTake (fun ds S Φ Ψ h => by obtain ⟨_, _, _, _, _, _, _, rfl, _⟩ := h; rfl) ?_, hm, kb1_of F 2 fun D doc pm an cdv ct us ws l1 l2 => match us, ws, l1, l2 with | [_, _], [_], _, _ => rfl,
    F.binds0 2 (by simp) rfl fun D doc pm an cdv ct us ks l1 l2 => match us, ks, l1, l2 with | [_, _], [_], _, _ => ⟨_, _, _, _, _, _, rfl, rfl, rfl⟩⟩
  intro A outer s H E hr ds S Φ Ψ ⟨l, l2, d, d2, xs, ys, n, ed, gl, hd, gl2, hd2, hx, hy, hzx, hzy, hn, kx, kv⟩
  subst ed
  have nd := scTake.nd
  obtain ⟨f1, fd1, F1, m1, b1⟩ := hCM
  obtain ⟨f2, fd2, F2, m2, b2⟩ := hCR
  obtain ⟨f3, fd3, F3, m3, b3⟩ := hER
  refine wb_cons (ws_par 3 4 rfl nd (we_meth0 cl m1 F1 hr b1 (we_name 0 rfl ⟨⟨_, ⟨l, rfl, gl⟩, rfl⟩, l, d, xs, rfl, gl, hd, hx, hzx, fun S1 c1 k1 h1 g1 => ?_⟩)))
  refine we_meth0 clR m2 F2 hr b2 (we_name 1 rfl ⟨⟨_, ⟨l2, rfl, k1.get gl2⟩, rfl⟩, l2, d2, ys, rfl, k1.get gl2, lst_keep hd2 k1, hy, hzy, fun S2 c2 k2 h2 g2 => ?_⟩)
  have k12 := k1.trans k2
  have g12 := k2.get g1
  refine wb_cons (ws_set 5 nd (we_callH hP (hr.mono (by decide)) (wa_cons (we_name 3 rfl (wa_cons (we_name 4 rfl (wa_nil ⟨.ptr c1, .ptr c2, chainF xs, chainF ys, rfl, g12, g2, by rw [chain_len]; omega, ?_⟩)))))))
  cases hpart : partF (chainF xs) (chainF ys) with
  | some k =>
    refine wb_cons (ws_ifT (wt_cmp op_notN rfl (we_name 5 rfl (we_non (r2_notN (d := .int (k : Nat)) (b := true) (.inr ⟨rfl, rfl⟩) ⟨_, rfl, rfl, ?_⟩)))))
    refine wb_cons (ws_raiseAt hF rfl (hr.mono (by decide)) (we_name 5 rfl (kx k S2 ?_ k12)))
    unfold takeF
    rw [hpart]
  | none =>
    refine wb_cons (ws_ifF (wt_cmp op_notN rfl (we_name 5 rfl (we_non (r2_notN (d := .non) (b := false) (.inl ⟨rfl, rfl⟩) ⟨_, rfl, rfl, wb_nil ?_⟩)))))
    refine wb_cons (ws_if (wt_cmp op_gt rfl (we_len rfl gL (we_name 3 rfl ⟨_, lst_seq (x := .ptr c1) g12, we_len rfl gL (we_name 4 rfl ⟨_, lst_seq (x := .ptr c2) g2, r2_cmp0 ⟨_, rfl, ifD ?_⟩⟩)⟩))))
    have e1 : ((chainF xs).map D.int).length = xs.length := by rw [List.length_map, chain_len]
    have e2 : ((chainF ys).map D.int).length = ys.length := by rw [List.length_map, chain_len]
    rw [e1, e2]
    by_cases hlt : ys.length < xs.length
    · refine .inl ⟨decide_eq_true (by omega), ?_⟩
      refine wb_cons (ws_raiseAt hF rfl (hr.mono (by decide)) (we_bin op_add (we_len rfl gL (we_name 4 rfl ⟨_, lst_seq (x := .ptr c2) g2, we_int (r2_int0 ?_)⟩))))
      rw [e2]
      have e3 : ((ys.length : Nat) : Int) + 1 = ((ys.length + 1 : Nat) : Int) := by omega
      rw [e3]
      refine kx (ys.length + 1) S2 ?_ k12
      unfold takeF
      rw [hpart]
      exact if_pos hlt
    · refine .inr ⟨decide_eq_false (by omega), wb_nil ?_⟩
      have tk : takeF xs ys n = .inr ((ys.drop xs.length).take n) := by
        unfold takeF
        rw [hpart]
        exact if_neg hlt
      refine wb_cons (ws_set 6 nd (we_slice sl_list (we_meth0 clR m3 F3 (hr.mono (by decide)) b3 (we_name 1 rfl ⟨⟨_, ⟨l2, rfl, k12.get gl2⟩, rfl⟩, l2, d2, ys, rfl, k12.get gl2, lst_keep hd2 k12, ?_⟩))))
      refine we_len rfl gL (we_name 3 rfl ⟨_, lst_seq (x := .ptr c1) g12, _, rfl, ?_⟩)
      refine we_bin op_add (we_len rfl gL (we_name 3 rfl ⟨_, lst_seq (x := .ptr c1) g12, we_name 2 rfl (r2_int0 ⟨_, rfl, rs_lst (xs := ys.map enD) rfl ?_⟩)⟩))
      rw [e1, cut_mid, ← List.map_drop, ← List.map_take]
      refine wb_cons (ws_fld cl n1 (we_bin op_catL (we_fld cl n1 (we_name 0 rfl ⟨_, _, ⟨l, rfl, k12.get gl⟩, rfl, we_name 6 rfl (r2_catL (xs := xs.map enD) (ys := ((ys.drop xs.length).take n).map enD) (lst_keep hd k12) rfl ?_ ?_)⟩))))
      · simp only [List.length_map, List.length_take, List.length_drop]
        omega
      rw [← List.map_append]
      refine we_name 0 rfl ⟨l, _, rfl, k12.get gl, by simp, ?_⟩
      refine wb_cons (ws_ret (we_len rfl gL (we_name 6 rfl ⟨((ys.drop xs.length).take n).map enD, rfl, ?_⟩)))
      rw [List.length_map]
      exact kv _ S2 tk k12
end
end Wy
set_option Elab.async false
set_option linter.all false
set_option maxRecDepth 100000
set_option maxHeartbeats 4000000
namespace Wy
open PySem PySem.Spec PyProof.Rows L2 Ab
/-! ### the law's draws -/
def cDeck : Ct := fun ds S Φ Ψ => ∃ c : Int, ds = [.int c, .int 34] ∧ ∀ S' l, Keep S S' → S.length ≤ l → DeckAt S' l 34 → Φ (.ptr l) S'
def cPick : Ct := fun ds S Φ Ψ => ∃ (l m n : Nat), ds = [.ptr l, .int m] ∧ 0 < m ∧ m ≤ 1000 ∧ DeckAt S l n ∧ n ≤ 1000000 ∧ ∀ (r : Nat) S', r < m → But l l S S' → DeckAt S' l (n + 1) → Φ (.int r) S'
def cOne : Ct := fun ds S Φ Ψ => ∃ (l n : Nat) (x : D) (xs : List D), ds = [.ptr l, x] ∧ LstD S x xs ∧ (∀ S', But l l S S' → LstD S' x xs) ∧ xs ≠ [] ∧ xs.length ≤ 1000 ∧ DeckAt S l n ∧ n ≤ 1000000 ∧ ∀ (r : Nat) d S', xs[r]? = some d → But l l S S' → DeckAt S' l (n + 1) → Φ d S'
def abc : List Str := ["a", "b", "c", "d", "e"]
def cSomeN : Ct := fun ds S Φ Ψ => ∃ (l n : Nat), ds = [.ptr l] ∧ DeckAt S l n ∧ n ≤ 1000000 ∧ ∀ (m : Nat) S', 2 ≤ m → m ≤ 5 → But l l S S' → DeckAt S' l (n + 1) → Φ (.lst ((abc.take m).map D.str)) S'
def cLawEd : Ct := fun ds S Φ Ψ => ∃ (l n : Nat), ds = [.ptr l] ∧ DeckAt S l n ∧ n ≤ 900000 ∧ ∀ (e : Ed) S', e.Ok → But l l S S' → DeckAt S' l (n + 5) → Φ (edD e) S'
def edAt (p : Nat) : Ed := ⟨p / 10000, p / 100 % 100, p % 100⟩
theorem edAt_ok {p : Nat} (h : p ≤ 999999) : (edAt p).Ok := ⟨by show p / 10000 ≤ 99; omega, by show p / 100 % 100 ≤ 99; omega, by show p % 100 ≤ 99; omega⟩
theorem edAt_pl (p : Nat) : (edAt p).pl = p := by
  show p / 10000 * 10000 + p / 100 % 100 * 100 + p % 100 = p
  omega
theorem pl_le {e : Ed} (h : e.Ok) : e.pl ≤ 999999 := by
  have h1 := h.a
  have h2 := h.b
  have h3 := h.c
  unfold Ed.pl
  omega
def cLawAt : Ct := fun ds S Φ Ψ => ∃ p : Nat, ds = [.int (p : Nat)] ∧ p ≤ 999999 ∧ Φ (edD (edAt p)) S
section
variable {P : Program} {w : World} {K : PySem.W.Frag} {mg : Str → Option Value} {base : Heap} {f : Addr} {fd : FuncData} {C : Addr}
theorem scDeck : FnScope ["cell", "turn"] ["cell", "turn"] (defScope s__law_deck) := ⟨rfl, rfl, rfl, by decide +kernel, rfl, by decide +kernel, by decide +kernel⟩
theorem ok_deck (F : FnP K "_law_deck" s__law_deck f fd) (hm : mg "_law_deck" = some (.ref f)) : Has P w K mg base 1 "_law_deck" ["cell", "turn"] cDeck := by
  refine fnH_of ["cell", "turn"] F hm cDeck (fun _ _ _ _ _ _ us hl => match us, hl with | [_, _], _ => rfl) scDeck (fun ds S Φ Ψ h => by obtain ⟨_, rfl, _⟩ := h; rfl) ?_
  intro cdv A outer s H E hr ds S Φ Ψ ⟨c, ed, k⟩
  subst ed
  have p18 : CPow 10 18 := ⟨by decide, by decide, by decide⟩
  refine wb_cons (ws_if (wt_cmp op_ge rfl (we_name 0 rfl (we_bin op_pow (we_int (we_int (r2_int p18 (r2_cmp0 ⟨_, rfl, ifD ?_⟩))))))))
  by_cases h : (10 : Int) ^ (18 : Int).toNat ≤ c
  · refine .inl ⟨decide_eq_true h, ?_⟩
    refine wb_cons (ws_ret (we_lstC (wa_cons (we_bin op_sub (we_name 0 rfl (we_bin op_pow (we_int (we_int (r2_int p18 (r2_int0 ?_))))))))))
    refine wa_cons (we_bin op_mod (we_name 0 rfl (we_int (r2_int (show (0 : Int) < 2147483579 by decide) ?_))))
    refine wa_cons (we_name 1 rfl (wa_nil ⟨by simp, k _ _ Keep.refl.push (Nat.le_refl _) ⟨_, _, _, get_new, by omega, Int.emod_nonneg _ (by decide), Int.emod_lt_of_pos _ (by decide), by decide, by decide⟩⟩))
  · refine .inr ⟨decide_eq_false h, wb_nil ?_⟩
    refine wb_cons (ws_ret (we_lstC (wa_cons (we_int ?_))))
    refine wa_cons (we_bin op_mod (we_name 0 rfl (we_int (r2_int (show (0 : Int) < 2147483579 by decide) ?_))))
    refine wa_cons (we_name 1 rfl (wa_nil ⟨by simp, k _ _ Keep.refl.push (Nat.le_refl _) ⟨_, _, _, get_new, by decide, Int.emod_nonneg _ (by decide), Int.emod_lt_of_pos _ (by decide), by decide, by decide⟩⟩))
theorem scPick : FnScope ["deck", "many", "found", "number"] ["deck", "many"] (defScope s__law_pick) := ⟨rfl, rfl, rfl, by decide +kernel, rfl, by decide +kernel, by decide +kernel⟩
theorem ok_pick (F : FnP K "_law_pick" s__law_pick f fd) (hm : mg "_law_pick" = some (.ref f)) : Has P w K mg base 1 "_law_pick" ["deck", "many"] cPick := by
  refine fnH_of ["deck", "many", "found", "number"] F hm cPick (fun _ _ _ _ _ _ us hl => match us, hl with | [_, _], _ => rfl) scPick (fun ds S Φ Ψ h => by obtain ⟨_, _, _, rfl, _⟩ := h; rfl) ?_
  intro cdv A outer s H E hr ds S Φ Ψ ⟨l, m, n, ed, h0, hm, ⟨a, b, c, g, ha, hb, hb2, hc, hc2⟩, hn, k⟩
  subst ed
  have nd := scPick.nd
  refine wb_cons (ws_if (wt_cmp op_gt rfl (we_ix ix_list (we_name 0 rfl (we_int (r2_ixL (ds := [.int a, .int b, .int c]) (d := .int a) g rfl (we_int (r2_cmp0 ⟨_, rfl, ifD ?_⟩))))))))
  by_cases h : (1 : Int) < a
  · refine .inl ⟨decide_eq_true h, ?_⟩
    refine wb_cons (ws_set 2 nd (we_bin op_mod (we_ix ix_list (we_name 0 rfl (we_int (r2_ixL (ds := [.int a, .int b, .int c]) (d := .int a) g rfl (we_name 1 rfl (r2_int (show (0 : Int) < m by omega) ?_))))))))
    refine wb_cons (ws_asg (we_bin op_fdiv (we_ix ix_list (we_name 0 rfl (we_int (r2_ixL (ds := [.int a, .int b, .int c]) (d := .int a) g rfl (we_name 1 rfl (r2_int (show CDiv a m from ⟨by omega, by omega⟩) ?_))))))))
    refine wg_setL (we_name 0 rfl (we_int ⟨l, _, 0, 0, rfl, g, rfl, rfl, ?_⟩))
    obtain ⟨r, hr1, hr2⟩ := nat_of (Int.emod_nonneg a (show (m : Int) ≠ 0 by omega)) (Int.emod_lt_of_pos a (show (0 : Int) < m by omega))
    refine wb_cons (ws_ret (we_name 2 (d := .int (a % m)) rfl ?_))
    rw [hr2]
    refine k r _ hr1 .set1 ⟨a / m, b, c, get_set g, Int.ediv_nonneg ha (by omega), hb, hb2, hc, by omega⟩
  · refine .inr ⟨decide_eq_false h, wb_nil ?_⟩
    refine wb_cons (ws_asg (we_bin op_add (we_ix ix_list (we_name 0 rfl (we_int (r2_ixL (ds := [.int a, .int b, .int c]) (d := .int c) g rfl (we_int (r2_int0 ?_))))))))
    refine wg_setL (we_name 0 rfl (we_int ⟨l, _, 2, 2, rfl, g, rfl, rfl, ?_⟩))
    have g2 : (S.set l (.lst ([D.int a, .int b, .int c].set 2 (.int (c + 1)))))[l]? = some (.lst [.int a, .int b, .int (c + 1)]) := get_set g
    have bt : But l l S (S.set l (.lst ([D.int a, .int b, .int c].set 2 (.int (c + 1))))) := .set1
    generalize S.set l (.lst ([D.int a, .int b, .int c].set 2 (.int (c + 1)))) = S2 at g2 bt ⊢
    refine wb_cons (ws_set 3 nd (we_bin op_mod (we_bin op_pow (we_bin op_add (we_ix ix_list (we_name 0 rfl (we_int (r2_ixL (ds := [.int a, .int b, .int (c + 1)]) (d := .int b) g2 rfl ?_))))))))
    refine we_bin op_mul (we_int (we_ix ix_list (we_name 0 rfl (we_int (r2_ixL (ds := [.int a, .int b, .int (c + 1)]) (d := .int (c + 1)) g2 rfl (r2_int (.inl ⟨by decide, by decide⟩) (r2_int0 ?_)))))))
    refine we_int (r2_int (show CPow _ _ from ⟨by decide, by decide, by omega⟩) (we_int (r2_int (show (0 : Int) < 2147483647 by decide) ?_)))
    have q1 := Int.emod_nonneg ((b + 15485867 * (c + 1)) ^ (5 : Int).toNat) (show (2147483647 : Int) ≠ 0 by decide)
    have q2 := Int.emod_lt_of_pos ((b + 15485867 * (c + 1)) ^ (5 : Int).toNat) (show (0 : Int) < 2147483647 by decide)
    generalize (b + 15485867 * (c + 1)) ^ (5 : Int).toNat % 2147483647 = nu at q1 q2 ⊢
    refine wb_cons (ws_set 2 nd (we_bin op_fdiv (we_bin op_mod (we_bin op_pow (we_bin op_add (we_name 3 rfl ?_))))))
    refine we_bin op_mul (we_int (we_ix ix_list (we_name 0 rfl (we_int (r2_ixL (ds := [.int a, .int b, .int (c + 1)]) (d := .int (c + 1)) g2 rfl (r2_int (.inl ⟨by decide, by decide⟩) (r2_int0 ?_)))))))
    refine we_int (r2_int (show CPow _ _ from ⟨by decide, by decide, by omega⟩) (we_int (r2_int (show (0 : Int) < 2147483629 by decide) (we_int (r2_int (show CDiv _ _ from ⟨by decide, by decide⟩) ?_)))))
    have q3 := Int.emod_nonneg ((nu + 7919 * (c + 1)) ^ (3 : Int).toNat) (show (2147483629 : Int) ≠ 0 by decide)
    have q4 : 0 ≤ (nu + 7919 * (c + 1)) ^ (3 : Int).toNat % 2147483629 / 32 := Int.ediv_nonneg q3 (by decide)
    generalize (nu + 7919 * (c + 1)) ^ (3 : Int).toNat % 2147483629 / 32 = fo at q4 ⊢
    refine wb_cons (ws_ifF (wt_cmp op_gt rfl (we_name 1 rfl (we_int (r2_cmp0 ⟨_, rfl, decide_eq_false (by omega), wb_nil ?_⟩)))))
    refine wb_cons (ws_ret (we_bin op_mod (we_name 2 rfl (we_name 1 rfl (r2_int (show (0 : Int) < m by omega) ?_)))))
    obtain ⟨r, hr1, hr2⟩ := nat_of (Int.emod_nonneg fo (show (m : Int) ≠ 0 by omega)) (Int.emod_lt_of_pos fo (show (0 : Int) < m by omega))
    rw [hr2]
    exact k r _ hr1 bt ⟨a, b, c + 1, g2, ha, hb, hb2, by omega, by omega⟩
theorem scOne : FnScope ["deck", "some"] ["deck", "some"] (defScope s__law_one) := ⟨rfl, rfl, rfl, by decide +kernel, rfl, by decide +kernel, by decide +kernel⟩
theorem ok_one (F : FnP K "_law_one" s__law_one f fd) (hm : mg "_law_one" = some (.ref f)) (gL : mg "len" = none) (hP : Has P w K mg base 1 "_law_pick" ["deck", "many"] cPick) : Has P w K mg base 2 "_law_one" ["deck", "some"] cOne := by
  refine fnH_of ["deck", "some"] F hm cOne (fun _ _ _ _ _ _ us hl => match us, hl with | [_, _], _ => rfl) scOne (fun ds S Φ Ψ h => by obtain ⟨_, _, _, _, rfl, _⟩ := h; rfl) ?_
  intro cdv A outer s H E hr ds S Φ Ψ ⟨l, n, x, xs, ed, hx, hx2, hne, hz, dk, hn, k⟩
  subst ed
  have hl : 0 < xs.length := List.length_pos_iff.mpr hne
  refine wb_cons (ws_ret (we_ix ix_list (we_name 1 rfl (we_callH hP hr (wa_cons (we_name 0 rfl (wa_cons (we_len rfl gL (we_name 1 rfl ⟨xs, lst_seq hx, wa_nil ⟨l, xs.length, n, rfl, hl, hz, dk, hn, fun r S' hr bt dk' => ?_⟩⟩)))))))))
  exact r2_ixL (hx2 S' bt) (d := xs[r]) (atI_nat (by simp [hr])) (k r _ S' (by simp [hr]) bt dk')
theorem scSomeN : FnScope ["deck"] ["deck"] (defScope s__law_some_names) := ⟨rfl, rfl, rfl, by decide +kernel, rfl, by decide +kernel, by decide +kernel⟩
theorem ok_someN (F : FnP K "_law_some_names" s__law_some_names f fd) (hm : mg "_law_some_names" = some (.ref f)) (hP : Has P w K mg base 1 "_law_pick" ["deck", "many"] cPick) : Has P w K mg base 2 "_law_some_names" ["deck"] cSomeN := by
  refine fnH_of ["deck"] F hm cSomeN (fun _ _ _ _ _ _ us hl => match us, hl with | [_], _ => rfl) scSomeN (fun ds S Φ Ψ h => by obtain ⟨_, _, rfl, _⟩ := h; rfl) ?_
  intro cdv A outer s H E hr ds S Φ Ψ ⟨l, n, ed, dk, hn, k⟩
  subst ed
  refine wb_cons (ws_ret (we_slice sl_list (we_lst (wa_cons (we_str (wa_cons (we_str (wa_cons (we_str (wa_cons (we_str (wa_cons (we_str (wa_nil ⟨by simp, ?_⟩))))))))))))))
  refine we_bin op_add (we_int (we_callH hP hr (wa_cons (we_name 0 rfl (wa_cons (we_int (wa_nil ⟨l, 4, n, rfl, by decide, by decide, dk, hn, fun r S' hr2 bt dk' => r2_int0 ⟨_, rfl, rs_lst (xs := abc.map D.str) rfl ?_⟩⟩)))))))
  have e : (2 : Int) + ((r : Nat) : Int) = ((2 + r : Nat) : Int) := by omega
  rw [e, cut_to, ← List.map_take]
  exact k (2 + r) S' (by omega) (by omega) bt dk'
theorem scLawEd : FnScope ["deck", "way", "some"] ["deck"] (defScope s__law_edition) := ⟨rfl, rfl, rfl, by decide +kernel, rfl, by decide +kernel, by decide +kernel⟩
theorem ok_lawEd (F : FnP K "_law_edition" s__law_edition f fd) (hm : mg "_law_edition" = some (.ref f)) (hP : Has P w K mg base 1 "_law_pick" ["deck", "many"] cPick) : Has P w K mg base 2 "_law_edition" ["deck"] cLawEd := by
  refine fnH_of ["deck", "way", "some"] F hm cLawEd (fun _ _ _ _ _ _ us hl => match us, hl with | [_], _ => rfl) scLawEd (fun ds S Φ Ψ h => by obtain ⟨_, _, rfl, _⟩ := h; rfl) ?_
  intro cdv A outer s H E hr ds S Φ Ψ ⟨l, n, ed, dk, hn, k⟩
  subst ed
  have nd := scLawEd.nd
  refine wb_cons (ws_set 1 nd (we_callH hP hr (wa_cons (we_name 0 rfl (wa_cons (we_int (wa_nil ⟨l, 5, n, rfl, by decide, by decide, dk, by omega, fun way S1 hw b1 d1 => ?_⟩)))))))
  refine wb_cons (ws_if (wt_cmp op_lt rfl (we_name 1 rfl (we_int (r2_cmp0 ⟨_, rfl, ifD ?_⟩)))))
  by_cases h : (way : Int) < 4
  · refine .inl ⟨decide_eq_true h, ?_⟩
    refine wb_cons (ws_ret (we_tup (wa_cons (we_callH hP hr (wa_cons (we_name 0 rfl (wa_cons (we_int (wa_nil ⟨l, 3, n + 1, rfl, by decide, by decide, d1, by omega, fun r1 S2 h1 b2 d2 => ?_⟩)))))))))
    refine wa_cons (we_callH hP hr (wa_cons (we_name 0 rfl (wa_cons (we_int (wa_nil ⟨l, 2, n + 1 + 1, rfl, by decide, by decide, d2, by omega, fun r2 S3 h2 b3 d3 => ?_⟩))))))
    exact wa_cons (we_int (wa_nil ⟨by simp, k ⟨r1, r2, 0⟩ S3 ⟨by show r1 ≤ 99; omega, by show r2 ≤ 99; omega, by show 0 ≤ 99; omega⟩ (b1.trans (b2.trans b3)) (d3.mono (by omega))⟩))
  · refine .inr ⟨decide_eq_false h, wb_nil ?_⟩
    refine wb_cons (ws_set 2 nd (we_lst (wa_cons (we_int (wa_cons (we_int (wa_cons (we_int (wa_cons (we_callH hP hr (wa_cons (we_name 0 rfl (wa_cons (we_int (wa_nil ⟨l, 100, n + 1, rfl, by decide, by decide, d1, by omega, fun r0 S2 h0 b2 d2 => wa_nil ⟨by simp, ?_⟩⟩)))))))))))))))
    have pick : ∀ r : Nat, r < 4 → ∃ v : Nat, v ≤ 99 ∧ atI ([.int 0, .int 1, .int 99, .int (r0 : Nat)] : List D) (r : Int) = some (.int (v : Nat)) := fun r hr4 => by
      match r, hr4 with
      | 0, _ => exact ⟨0, by omega, rfl⟩
      | 1, _ => exact ⟨1, by omega, rfl⟩
      | 2, _ => exact ⟨99, by omega, rfl⟩
      | 3, _ => exact ⟨r0, by omega, rfl⟩
    refine wb_cons (ws_ret (we_tup (wa_cons (we_ix ix_list (we_name 2 rfl (we_callH hP hr (wa_cons (we_name 0 rfl (wa_cons (we_int (wa_nil ⟨l, 4, n + 1 + 1, rfl, by decide, by decide, d2, by omega, fun r1 S3 h1 b3 d3 => ?_⟩)))))))))))
    obtain ⟨v1, l1, e1⟩ := pick r1 h1
    refine r2_ixL (ds := [.int 0, .int 1, .int 99, .int (r0 : Nat)]) rfl e1 (wa_cons (we_ix ix_list (we_name 2 rfl (we_callH hP hr (wa_cons (we_name 0 rfl (wa_cons (we_int (wa_nil ⟨l, 4, n + 1 + 1 + 1, rfl, by decide, by decide, d3, by omega, fun r2 S4 h2 b4 d4 => ?_⟩)))))))))
    obtain ⟨v2, l2, e2⟩ := pick r2 h2
    refine r2_ixL (ds := [.int 0, .int 1, .int 99, .int (r0 : Nat)]) rfl e2 (wa_cons (we_ix ix_list (we_name 2 rfl (we_callH hP hr (wa_cons (we_name 0 rfl (wa_cons (we_int (wa_nil ⟨l, 4, n + 1 + 1 + 1 + 1, rfl, by decide, by decide, d4, by omega, fun r3 S5 h3 b5 d5 => ?_⟩)))))))))
    obtain ⟨v3, l3, e3⟩ := pick r3 h3
    exact r2_ixL (ds := [.int 0, .int 1, .int 99, .int (r0 : Nat)]) rfl e3 (wa_nil ⟨by simp, k ⟨v1, v2, v3⟩ S5 ⟨l1, l2, l3⟩ (b1.trans (b2.trans (b3.trans (b4.trans b5)))) (d5.mono (by omega))⟩)
theorem scLawPlace : FnScope ["edition"] ["edition"] (defScope s__law_place) := ⟨rfl, rfl, rfl, by decide +kernel, rfl, by decide +kernel, by decide +kernel⟩
theorem ok_lawPlace (F : FnP K "_law_place" s__law_place f fd) (hm : mg "_law_place" = some (.ref f)) : Has P w K mg base 1 "_law_place" ["edition"] cPlace := by
  refine fnH_of ["edition"] F hm cPlace (fun _ _ _ _ _ _ us hl => match us, hl with | [_], _ => rfl) scLawPlace (fun ds S Φ Ψ h => by obtain ⟨_, _, rfl, _⟩ := h; rfl) ?_
  intro cdv A outer s H E hr ds S Φ Ψ ⟨e, he, ed, k⟩
  subst ed
  have h1 := he.a
  have h2 := he.b
  refine wb_cons (ws_ret (we_bin op_add (we_bin op_add (we_bin op_mul (we_ix ix_tup (we_name 0 rfl (we_int (r2_ixT rfl (we_int (r2_int (.inl ⟨by omega, by omega⟩) ?_))))))))))
  refine we_bin op_mul (we_ix ix_tup (we_name 0 rfl (we_int (r2_ixT rfl (we_int (r2_int (.inl ⟨by omega, by omega⟩) (r2_int0 ?_)))))))
  refine we_ix ix_tup (we_name 0 rfl (we_int (r2_ixT rfl (r2_int0 ?_))))
  have e1 : ((e.a : Int) * 10000 + (e.b : Int) * 100 + (e.c : Int)) = ((e.pl : Nat) : Int) := by unfold Ed.pl; omega
  rw [e1]
  exact k
theorem scLawAt : FnScope ["place"] ["place"] (defScope s__law_at) := ⟨rfl, rfl, rfl, by decide +kernel, rfl, by decide +kernel, by decide +kernel⟩
theorem ok_lawAt (F : FnP K "_law_at" s__law_at f fd) (hm : mg "_law_at" = some (.ref f)) : Has P w K mg base 1 "_law_at" ["place"] cLawAt := by
  refine fnH_of ["place"] F hm cLawAt (fun _ _ _ _ _ _ us hl => match us, hl with | [_], _ => rfl) scLawAt (fun ds S Φ Ψ h => by obtain ⟨_, rfl, _⟩ := h; rfl) ?_
  intro cdv A outer s H E hr ds S Φ Ψ ⟨p, ed, hp, k⟩
  subst ed
  refine wb_cons (ws_ret (we_tup (wa_cons (we_bin op_fdiv (we_name 0 rfl (we_int (r2_int (show CDiv _ _ from ⟨by omega, by omega⟩) ?_)))))))
  refine wa_cons (we_bin op_mod (we_bin op_fdiv (we_name 0 rfl (we_int (r2_int (show CDiv _ _ from ⟨by omega, by omega⟩) (we_int (r2_int (show (0 : Int) < 100 by decide) ?_)))))))
  refine wa_cons (we_bin op_mod (we_name 0 rfl (we_int (r2_int (show (0 : Int) < 100 by decide) (wa_nil ⟨by simp, ?_⟩)))))
  exact k
end
end Wy
set_option Elab.async false
set_option linter.all false
set_option maxRecDepth 100000
set_option maxHeartbeats 4000000
namespace Wy
open PySem PySem.Spec PyProof.Rows L2 Ab
/-! ### spans joined -/
theorem we_negI {X : Cx} {Γ : List (Option D)} {S : List Cell} {Φ : D → List Cell → Prop} {Ξ : XP} {a : Expr} {pos : Pos} (h : WE X a Γ S (fun d S1 => ∃ i, d = .int i ∧ Φ (.int (-i)) S1) Ξ) : WE X (.UnaryOp .USub a pos) Γ S Φ Ξ :=
  fun σ ρ M H Q W ok sl kv kx tk => PE.s (pe_un un_neg (pe_s a)) (h σ ρ M H _ W ok sl (fun d S1 v ρ1 M1 H1 ⟨i, e1, q⟩ t1 ok1 r1 => by
    subst e1
    exact ⟨i, rp_int r1, kv _ S1 _ ρ1 M1 H1 q t1 ok1 (.int _)⟩) kx tk)
theorem ixN_last {n : Nat} : ixN (n + 1) (-1) = some n := by
  unfold ixN
  rw [if_neg (by omega), if_pos (by omega)]
  congr 1
  omega
theorem atI_last {α : Type} (l : List α) (x : α) : atI (l ++ [x]) (-1) = some x := by
  unfold atI
  rw [List.length_append, List.length_singleton, ixN_last]
  show (l ++ [x])[l.length]? = some x
  simp
theorem srt_ints (ns : List Int) : srt (ns.map D.int) = (ns.mergeSort fun a b => decide (a ≤ b)).map D.int := by
  refine (List.map_mergeSort (r := fun a b : Int => decide (a ≤ b)) (s := PySem.W.dataLe false toPy) (f := D.int) (l := ns) (fun a _ b _ => ?_)).symm
  have := congrFun (congrFun (PySem.W.dataLe_int (fun b : Int => b)) a) b
  exact this.symm
/-- two numbers sorted -/
theorem sort2 (a b : Nat) : ∃ x y : Nat, srt [D.int (a : Nat), D.int (b : Nat)] = [D.int (x : Nat), D.int (y : Nat)] ∧ x ≤ y ∧ (x = a ∨ x = b) ∧ (y = a ∨ y = b) := by
  have e := srt_ints [(a : Int), (b : Int)]
  have pm := List.mergeSort_perm [(a : Int), (b : Int)] (fun a b => decide (a ≤ b))
  have pw := List.pairwise_mergeSort (le := fun a b : Int => decide (a ≤ b)) (fun a b c h1 h2 => by simp at *; omega) (fun a b => by simp; omega) [(a : Int), (b : Int)]
  generalize [(a : Int), (b : Int)].mergeSort (fun a b => decide (a ≤ b)) = l at e pm pw
  have hl := pm.length_eq
  match l, hl with
  | [x, y], _ =>
    have hx := pm.mem_iff (a := x)
    have hy := pm.mem_iff (a := y)
    simp only [List.mem_cons, List.not_mem_nil, or_false, true_or, or_true, true_iff] at hx hy
    have hxy : x ≤ y := by
      have := (List.pairwise_cons.mp pw).1 y (by simp)
      simpa using this
    refine ⟨x.toNat, y.toNat, ?_, by omega, by omega, by omega⟩
    have e1 : ((x.toNat : Nat) : Int) = x := by omega
    have e2 : ((y.toNat : Nat) : Int) = y := by omega
    rw [e1, e2]
    exact e
abbrev prD (p : Nat × Nat) : D := .tup [.int (p.1 : Nat), .int (p.2 : Nat)]
structure JoinOk (acc : List (Nat × Nat)) : Prop where
  ok : ∀ p ∈ acc, p.1 ≤ p.2 ∧ p.2 ≤ 999999
  gap : ∀ (i : Nat) (p q : Nat × Nat), acc[i]? = some p → acc[i + 1]? = some q → p.2 + 1 < q.1
theorem join_nil : JoinOk [] := ⟨fun p h => (by cases h), fun i p q h => (by simp at h)⟩
theorem join_app {acc : List (Nat × Nat)} {lo hi : Nat} (h : JoinOk acc) (h1 : lo ≤ hi) (h2 : hi ≤ 999999) (hg : ∀ init p, acc = init ++ [p] → p.2 + 1 < lo) : JoinOk (acc ++ [(lo, hi)]) := by
  refine ⟨fun p hp => ?_, fun i p q e1 e2 => ?_⟩
  · rcases List.mem_append.mp hp with z | z
    · exact h.ok p z
    · rw [List.mem_singleton.mp z]
      exact ⟨h1, h2⟩
  · by_cases hi : i + 1 < acc.length
    · rw [List.getElem?_append_left (by omega)] at e1
      rw [List.getElem?_append_left hi] at e2
      exact h.gap i p q e1 e2
    · have hl := lt_of_some e2
      rw [List.length_append, List.length_singleton] at hl
      have hi2 : i + 1 = acc.length := by omega
      rw [hi2, List.getElem?_append_right (Nat.le_refl _), Nat.sub_self] at e2
      cases e2
      rw [List.getElem?_append_left (by omega)] at e1
      refine hg (acc.take i) p ?_
      have := take_snoc e1
      rw [hi2, List.take_length] at this
      exact this
theorem join_last {init : List (Nat × Nat)} {a b hi : Nat} (h : JoinOk (init ++ [(a, b)])) (h2 : hi ≤ 999999) : JoinOk (init ++ [(a, max hi b)]) := by
  have hab := h.ok (a, b) (by simp)
  refine ⟨fun p hp => ?_, fun i p q e1 e2 => ?_⟩
  · rcases List.mem_append.mp hp with z | z
    · exact h.ok p (List.mem_append_left _ z)
    · rw [List.mem_singleton.mp z]
      simp only at hab ⊢
      omega
  · by_cases hi : i + 1 < init.length
    · rw [List.getElem?_append_left (by omega)] at e1
      rw [List.getElem?_append_left hi] at e2
      exact h.gap i p q (by rw [List.getElem?_append_left (by omega)]; exact e1) (by rw [List.getElem?_append_left hi]; exact e2)
    · have hl := lt_of_some e2
      rw [List.length_append, List.length_singleton] at hl
      have hi2 : i + 1 = init.length := by omega
      rw [hi2, List.getElem?_append_right (Nat.le_refl _), Nat.sub_self] at e2
      cases e2
      rw [List.getElem?_append_left (by omega)] at e1
      exact h.gap i p (a, b) (by rw [List.getElem?_append_left (by omega)]; exact e1) (by rw [hi2, List.getElem?_append_right (Nat.le_refl _), Nat.sub_self]; rfl)
def rgOf (acc : List (Nat × Nat)) : Rg := acc.map fun p => (edAt p.1, edAt p.2)
theorem rgOf_ok {acc : List (Nat × Nat)} (h : JoinOk acc) (hz : acc.length ≤ 20) : RgOk (rgOf acc) := by
  refine ⟨fun p hp => ?_, fun i p q e1 e2 => ?_, by rw [rgOf, List.length_map]; exact hz⟩
  · obtain ⟨x, hx, rfl⟩ := List.mem_map.mp hp
    have := h.ok x hx
    refine ⟨edAt_ok (by omega), edAt_ok this.2, ?_⟩
    show (edAt x.1).pl ≤ (edAt x.2).pl
    rw [edAt_pl, edAt_pl]
    exact this.1
  · rw [rgOf, List.getElem?_map, Option.map_eq_some_iff] at e1 e2
    obtain ⟨x, hx, rfl⟩ := e1
    obtain ⟨y, hy, rfl⟩ := e2
    show (edAt x.2).pl + 1 < (edAt y.1).pl
    rw [edAt_pl, edAt_pl]
    exact h.gap i x y hx hy
theorem pr_ok (ps : List (Nat × Nat)) : okD (.lst (ps.map prD)) = true := okD_of (plain_map fun _ _ => rfl) (Nat.le_trans (Nat.succ_le_succ (dep_map (k := 1) fun _ _ => Nat.le_refl _)) (by decide))
def cJoined : Ct := fun ds S Φ Ψ => ∃ d, ∃ ps : List (Nat × Nat), ds = [d] ∧ LstD S d (ps.map prD) ∧ (∀ p ∈ ps, p.1 ≤ p.2 ∧ p.2 ≤ 999999) ∧ ps.length ≤ 10 ∧ ∀ (r : Rg) S', RgOk r → Keep S S' → Φ (rgD r) S'
section
variable {P : Program} {w : World} {K : PySem.W.Frag} {mg : Str → Option Value} {base : Heap} {f : Addr} {fd : FuncData} {C : Addr}
abbrev nJoined : List Str := ["spans", "found", "low", "high"]
theorem scJoined : FnScope nJoined ["spans"] (defScope s__law_joined) := ⟨rfl, rfl, rfl, by decide +kernel, rfl, by decide +kernel, by decide +kernel⟩
theorem ok_joined (F : FnP K "_law_joined" s__law_joined f fd) (hm : mg "_law_joined" = some (.ref f)) (gS : mg "sorted" = none) (gM : mg "max" = none) (gT : mg "tuple" = none) (hA : Has P w K mg base 1 "_law_at" ["place"] cLawAt) : Has P w K mg base 2 "_law_joined" ["spans"] cJoined := by
  refine fnH_of nJoined F hm cJoined (fun _ _ _ _ _ _ us hl => match us, hl with | [_], _ => rfl) scJoined (fun ds S Φ Ψ h => by obtain ⟨_, _, rfl, _⟩ := h; rfl) ?_
  intro cdv A outer s H E hr ds S Φ Ψ ⟨d, ps, ed, hd, hp, hz, k⟩
  subst ed
  have nd := scJoined.nd
  have hu80' := hu80 hr
  refine wb_cons (ws_set 1 nd (we_lstC (wa_nil ⟨by simp, ?_⟩)))
  obtain ⟨qs, hq, eq⟩ : ∃ qs : List (Nat × Nat), qs.Perm ps ∧ srt (ps.map prD) = qs.map prD := perm_pull prD (List.mergeSort_perm _ _)
  have hqz := hq.length_eq
  refine wb_cons (ws_forI (passes_of rfl) rfl (wi_list (we_sortL hu80' rfl gS (we_name 0 rfl ⟨ps.map prD, lst_keep hd Keep.refl.push, pr_ok ps, ?_, ?_, srt (ps.map prD), rfl, fun i Γ' S' => (∃ a b, Γ' = [some d, some (.ptr S.length), a, b]) ∧ Keep S S' ∧ ∃ acc : List (Nat × Nat), S'[S.length]? = some (.lst (acc.map prD)) ∧ JoinOk acc ∧ acc.length ≤ i, ?_, fun _ _ _ _ _ => rfl, ?_, ?_⟩))))
  · rw [List.map_map]
    exact PySem.W.AllAlike.of fun x y => by simp [PySem.W.alike, PySem.W.alikeAll, toPy, toPys]
  · rw [List.map_map]
    exact PySem.W.Sortable.tuples fun x => ⟨_, _, rfl⟩
  · exact ⟨⟨_, _, rfl⟩, Keep.refl.push, [], get_new, join_nil, Nat.le_refl _⟩
  · rintro i z Γ' S' hz2 ⟨⟨a, b, rfl⟩, kp, acc, hc, hj, hal⟩
    rw [eq, List.getElem?_map, Option.map_eq_some_iff] at hz2
    obtain ⟨⟨lo, hi⟩, hxi, rfl⟩ := hz2
    have hlh := hp (lo, hi) (hq.mem_iff.mp (List.mem_of_getElem? hxi))
    have hii := lt_of_some hxi
    refine wg_tup rfl (wgs_cons (wg_name 2 (wgs_cons (wg_name 3 (wgs_nil ?_) nd)) nd))
    have app : ∀ (hg : ∀ init p, acc = init ++ [p] → p.2 + 1 < lo), JoinOk (acc ++ [(lo, hi)]) := fun hg => join_app hj hlh.1 hlh.2 hg
    refine wb_cons (ws_if (wt_ww (ww_andD (wt_cmp (op_neD (by show A.units + 3 + 64 < cLine; have e : (A.deeper (envOfC "_law_joined" (defScope s__law_joined) s.heap.objs.size f cdv)).units = A.units + 3 := rfl; omega)) rfl (we_name 1 rfl (we_lst (wa_nil ⟨by simp, r2_neD (d := .lst (acc.map prD)) (e := .lst []) ⟨_, hc, rfl⟩ rfl (pr_ok acc) (by decide +kernel) (eqv_nil _) ?_⟩)))))))
    rcases List.eq_nil_or_concat acc with e | ⟨init, ⟨la, lb⟩, e⟩
    · subst e
      refine ⟨_, rfl, .inr ⟨by simp, ifD (.inr ⟨rfl, ?_⟩)⟩⟩
      refine wb_cons (ws_expr (we_append (we_name 1 rfl ⟨S.length, rfl, ⟨_, hc⟩, we_tup (wa_cons (we_name 2 rfl (wa_cons (we_name 3 rfl (wa_nil ⟨by simp, _, hc, by simp, wb_nil (wb_nil ⟨⟨_, _, rfl⟩, kp.set (Nat.le_refl _), [(lo, hi)], get_set hc, app (fun init p z => by simp at z), by simp⟩)⟩)))))⟩)))
    · rw [List.concat_eq_append] at e
      subst e
      refine ⟨_, rfl, .inl ⟨by simp, ?_⟩⟩
      have hlast := hj.ok (la, lb) (by simp)
      have hc' : S'[S.length]? = some (.lst (init.map prD ++ [prD (la, lb)])) := by rw [hc, List.map_append]; rfl
      refine ww_and1 (wt_cmp op_le rfl (we_name 2 rfl (we_bin op_add (we_ix ix_tup (we_ix ix_list (we_name 1 rfl (we_negI (we_int ⟨1, rfl, r2_ixL hc' (atI_last _ _) (we_int (r2_ixT rfl (we_int (r2_int0 (r2_cmp0 ⟨_, rfl, ifD ?_⟩)))))⟩))))))))
      by_cases hle : ((lo : Nat) : Int) ≤ ((lb : Nat) : Int) + 1
      · refine .inl ⟨decide_eq_true hle, ?_⟩
        refine wb_cons (ws_asg (we_tup (wa_cons (we_ix ix_tup (we_ix ix_list (we_name 1 rfl (we_negI (we_int ⟨1, rfl, r2_ixL hc' (atI_last _ _) (we_int (r2_ixT rfl ?_))⟩))))))))
        refine wa_cons (we_max2 rfl rfl gM (we_name 3 rfl (we_ix ix_tup (we_ix ix_list (we_name 1 rfl (we_negI (we_int ⟨1, rfl, r2_ixL hc' (atI_last _ _) (we_int (r2_ixT rfl ⟨_, _, rfl, rfl, wa_nil ⟨by simp, ?_⟩⟩))⟩)))))))
        refine wg_setL (we_name 1 rfl (we_negI (we_int ⟨1, rfl, S.length, _, _, init.length, rfl, hc', rfl, by rw [List.length_append, List.length_singleton]; rw [List.length_map]; exact ixN_last, ?_⟩)))
        have em : (if ((lb : Nat) : Int) > ((hi : Nat) : Int) then ((lb : Nat) : Int) else ((hi : Nat) : Int)) = ((max hi lb : Nat) : Int) := by split <;> omega
        have es : (init.map prD ++ [prD (la, lb)]).set init.length (.tup [.int (la : Nat), .int ((max hi lb : Nat))]) = (init ++ [(la, max hi lb)]).map prD := by
          rw [List.set_append_right _ _ (by rw [List.length_map]; exact Nat.le_refl _), List.length_map, Nat.sub_self, List.map_append]
          rfl
        refine wb_nil (wb_nil ⟨⟨_, _, rfl⟩, kp.set (Nat.le_refl _), init ++ [(la, max hi lb)], ?_, join_last hj hlh.2, ?_⟩)
        · rw [em, es]
          exact get_set hc
        · simp only [List.length_append, List.length_singleton] at hal ⊢
          omega
      · refine .inr ⟨decide_eq_false hle, ?_⟩
        refine wb_cons (ws_expr (we_append (we_name 1 rfl ⟨S.length, rfl, ⟨_, hc⟩, we_tup (wa_cons (we_name 2 rfl (wa_cons (we_name 3 rfl (wa_nil ⟨by simp, _, hc, ?_, wb_nil (wb_nil ⟨⟨_, _, rfl⟩, kp.set (Nat.le_refl _), init ++ [(la, lb)] ++ [(lo, hi)], ?_, app (fun init2 p z => ?_), ?_⟩)⟩)))))⟩)))
        · rw [List.length_map]
          omega
        · rw [List.map_append (l₁ := init ++ [(la, lb)])]
          exact get_set hc
        · have := List.append_inj_right' z rfl
          cases this
          omega
        · simp only [List.length_append, List.length_singleton] at hal ⊢
          omega
  · rintro Γ' S' ⟨⟨a, b, rfl⟩, kp, acc, hc, hj, hal⟩
    rw [eq, List.length_map] at hal
    refine wb_cons (ws_ret (we_tupF rfl gT ?_))
    refine we_lc (own := [("low", 2), ("high", 3)]) (g := gTup K 2 (gNames [2, 3])) rfl nd (blkOk_by (N := nJoined) (sc := defScope s__law_joined) (by decide +kernel)) (fun _ _ _ _ _ => pg_tup rfl (pgs_cons (pg_name nd rfl (.inl rfl) (.inr rfl)) (pgs_cons (pg_name nd rfl (.inl rfl) (.inr rfl)) pgs_nil))) ?_
    refine wi_list (we_name 1 rfl ⟨_, hc, lc_mapE prD acc rfl (fun p => spD (edAt p.1, edAt p.2)) (by rw [List.length_map]; omega) (fun S1 k1 => k1.get hc) (fun i p S1 hx k1 => ?_) fun S1 k1 => ⟨_, rfl, ?_⟩⟩)
    · have := hj.ok p (List.mem_of_getElem? hx)
      exact ⟨_, tc_tup (js := [2, 3]) (by decide) rfl, fun s H0 C cl fp => we_tup (wa_cons (we_callH hA hr (wa_cons (we_name 2 rfl (wa_nil ⟨p.1, rfl, by omega, wa_cons (we_callH hA hr (wa_cons (we_name 3 rfl (wa_nil ⟨p.2, rfl, by omega, wa_nil ⟨by simp, rfl, k1⟩⟩))))⟩)))))⟩
    · have := k (rgOf acc) S1 (rgOf_ok hj (by omega)) (kp.trans k1)
      rw [rgOf, rgD, List.map_map] at this
      exact this
end
end Wy
set_option Elab.async false
set_option linter.all false
set_option maxRecDepth 100000
set_option maxHeartbeats 4000000
namespace Wy
open PySem PySem.Spec PyProof.Rows L2 Ab
/-! ### a drawn span -/
def cLawSpan : Ct := fun ds S Φ Ψ => ∃ (l n : Nat), ds = [.ptr l] ∧ DeckAt S l n ∧ n ≤ 800000 ∧ ∀ (r : Rg) S', RgOk r → But l l S S' → DeckAt S' l (n + 20) → Φ (rgD r) S'
theorem rg1_ok {e f : Ed} (he : e.Ok) (hf : f.Ok) (h : e.pl ≤ f.pl) : RgOk [(e, f)] := ⟨fun p hp => by
  rw [List.mem_singleton.mp hp]
  exact ⟨he, hf, h⟩, fun i p q h1 h2 => by simp at h2, by simp⟩
theorem last_ok : lastE.Ok := ⟨by decide, by decide, by decide⟩
theorem first_ok : firstE.Ok := ⟨by decide, by decide, by decide⟩
section
variable {P : Program} {w : World} {K : PySem.W.Frag} {mg : Str → Option Value} {base : Heap} {f : Addr} {fd : FuncData} {C : Addr}
abbrev nLawSpan : List Str := ["deck", "way", "one", "other", "more"]
theorem scLawSpan : FnScope nLawSpan ["deck"] (defScope s__law_span) := ⟨rfl, rfl, rfl, by decide +kernel, rfl, by decide +kernel, by decide +kernel⟩
theorem ok_lawSpan (F : FnP K "_law_span" s__law_span f fd) (hm : mg "_law_span" = some (.ref f)) (gS : mg "sorted" = none) (gMin : mg "min" = none) (hP : Has P w K mg base 1 "_law_pick" ["deck", "many"] cPick) (hE : Has P w K mg base 2 "_law_edition" ["deck"] cLawEd) (hPl : Has P w K mg base 1 "_law_place" ["edition"] cPlace)
    (hA : Has P w K mg base 1 "_law_at" ["place"] cLawAt) (hJ : Has P w K mg base 2 "_law_joined" ["spans"] cJoined) : Has P w K mg base 3 "_law_span" ["deck"] cLawSpan := by
  refine fnH_of nLawSpan F hm cLawSpan (fun _ _ _ _ _ _ us hl => match us, hl with | [_], _ => rfl) scLawSpan (fun ds S Φ Ψ h => by obtain ⟨_, _, rfl, _⟩ := h; rfl) ?_
  intro cdv A outer s H E hr ds S Φ Ψ ⟨l, n, ed, dk, hn, k⟩
  subst ed
  have nd := scLawSpan.nd
  have hr1 := hr.mono (show 1 ≤ 2 by decide)
  have hu80' := hu80 hr
  refine wb_cons (ws_set 1 nd (we_callH hP hr1 (wa_cons (we_name 0 rfl (wa_cons (we_int (wa_nil ⟨l, 9, n, rfl, by decide, by decide, dk, by omega, fun way S1 hw b1 d1 => ?_⟩)))))))
  refine wb_cons (ws_asg (we_sortL hu80' rfl gS (we_lst (wa_cons (we_callH hPl hr1 (wa_cons (we_callH hE hr (wa_cons (we_name 0 rfl (wa_nil ⟨l, n + 1, rfl, d1, by omega, fun e1 S2 o1 b2 d2 => ?_⟩))))))))))
  refine wa_nil ⟨e1, o1, rfl, ?_⟩
  refine wa_cons (we_callH hPl hr1 (wa_cons (we_callH hE hr (wa_cons (we_name 0 rfl (wa_nil ⟨l, n + 1 + 5, rfl, d2, by omega, fun e2 S3 o2 b3 d3 => wa_nil ⟨e2, o2, rfl, ?_⟩⟩))))))
  obtain ⟨x, y, es, hxy, hx1, hy1⟩ := sort2 e1.pl e2.pl
  have pl1 := pl_le o1
  have pl2 := pl_le o2
  have hx : x ≤ 999999 := by rcases hx1 with z | z <;> omega
  have hy : y ≤ 999999 := by rcases hy1 with z | z <;> omega
  refine wa_nil ⟨by simp, [.int (e1.pl : Nat), .int (e2.pl : Nat)], rfl, rfl, ?_, ?_, ?_⟩
  · exact PySem.W.AllAlike.of (enc := fun i : Int => PyData.int i) (bs := [(e1.pl : Int), (e2.pl : Int)]) fun a b => by simp [PySem.W.alike]
  · exact PySem.W.Sortable.others (enc := fun i : Int => PyData.int i) (bs := [(e1.pl : Int), (e2.pl : Int)]) fun a => ⟨by simp, by simp⟩
  rw [es]
  have b13 : But l l S S3 := b1.trans (b2.trans b3)
  refine wg_lst (ds := [.int (x : Nat), .int (y : Nat)]) rfl rfl (wgs_cons (wg_name 2 (wgs_cons (wg_name 3 (wgs_nil ?_) nd)) nd))
  refine wb_cons (ws_if (wt_cmp op_lt rfl (we_name 1 rfl (we_int (r2_cmp0 ⟨_, rfl, ifD ?_⟩)))))
  by_cases h1 : (way : Int) < 3
  · refine .inl ⟨decide_eq_true h1, ?_⟩
    refine wb_cons (ws_ret (we_tup (wa_cons (we_tup (wa_cons (we_tup (wa_cons (we_int (wa_cons (we_int (wa_cons (we_int (wa_nil ⟨by simp, ?_⟩)))))))))))))
    refine wa_cons (we_tup (wa_cons (we_int (wa_cons (we_int (wa_cons (we_int (wa_nil ⟨by simp, wa_nil ⟨by simp, wa_nil ⟨by simp, ?_⟩⟩⟩))))))))
    exact k anyR S3 any_ok b13 (d3.mono (by omega))
  refine .inr ⟨decide_eq_false h1, wb_nil ?_⟩
  refine wb_cons (ws_if (wt_cmp op_eq rfl (we_name 1 rfl (we_int (r2_eqI ⟨_, rfl, ifD ?_⟩)))))
  by_cases h2 : (way : Int) = 3
  · refine .inl ⟨decide_eq_true h2, ?_⟩
    refine wb_cons (ws_ret (we_tup (wa_cons (we_tup (wa_cons (we_callH hA hr1 (wa_cons (we_name 2 rfl (wa_nil ⟨x, rfl, hx, ?_⟩)))))))))
    refine wa_cons (we_tup (wa_cons (we_int (wa_cons (we_int (wa_cons (we_int (wa_nil ⟨by simp, wa_nil ⟨by simp, wa_nil ⟨by simp, ?_⟩⟩⟩))))))))
    exact k [(edAt x, lastE)] S3 (rg1_ok (edAt_ok hx) last_ok (by rw [edAt_pl]; exact hx)) b13 (d3.mono (by omega))
  refine .inr ⟨decide_eq_false h2, wb_nil ?_⟩
  refine wb_cons (ws_if (wt_cmp op_eq rfl (we_name 1 rfl (we_int (r2_eqI ⟨_, rfl, ifD ?_⟩)))))
  by_cases h3 : (way : Int) = 4
  · refine .inl ⟨decide_eq_true h3, ?_⟩
    refine wb_cons (ws_ret (we_tup (wa_cons (we_tup (wa_cons (we_tup (wa_cons (we_int (wa_cons (we_int (wa_cons (we_int (wa_nil ⟨by simp, ?_⟩)))))))))))))
    refine wa_cons (we_callH hA hr1 (wa_cons (we_name 3 rfl (wa_nil ⟨y, rfl, hy, wa_nil ⟨by simp, wa_nil ⟨by simp, ?_⟩⟩⟩))))
    exact k [(firstE, edAt y)] S3 (rg1_ok first_ok (edAt_ok hy) (by show 0 ≤ _; omega)) b13 (d3.mono (by omega))
  refine .inr ⟨decide_eq_false h3, wb_nil ?_⟩
  refine wb_cons (ws_if (wt_cmp op_lt rfl (we_name 1 rfl (we_int (r2_cmp0 ⟨_, rfl, ifD ?_⟩)))))
  by_cases h4 : (way : Int) < 7
  · refine .inl ⟨decide_eq_true h4, ?_⟩
    refine wb_cons (ws_ret (we_tup (wa_cons (we_tup (wa_cons (we_callH hA hr1 (wa_cons (we_name 2 rfl (wa_nil ⟨x, rfl, hx, ?_⟩)))))))))
    refine wa_cons (we_callH hA hr1 (wa_cons (we_name 3 rfl (wa_nil ⟨y, rfl, hy, wa_nil ⟨by simp, wa_nil ⟨by simp, ?_⟩⟩⟩))))
    exact k [(edAt x, edAt y)] S3 (rg1_ok (edAt_ok hx) (edAt_ok hy) (by rw [edAt_pl, edAt_pl]; exact hxy)) b13 (d3.mono (by omega))
  refine .inr ⟨decide_eq_false h4, wb_nil ?_⟩
  refine wb_cons (ws_if (wt_cmp op_eq rfl (we_name 1 rfl (we_int (r2_eqI ⟨_, rfl, ifD ?_⟩)))))
  by_cases h5 : (way : Int) = 7
  · refine .inl ⟨decide_eq_true h5, ?_⟩
    refine wb_cons (ws_set 4 nd (we_callH hPl hr1 (wa_cons (we_callH hE hr (wa_cons (we_name 0 rfl (wa_nil ⟨l, n + 1 + 5 + 5, rfl, d3, by omega, fun e3 S4 o3 b4 d4 => wa_nil ⟨e3, o3, rfl, ?_⟩⟩)))))))
    have pl3 := pl_le o3
    refine wb_cons (ws_ret (we_callH hJ hr (wa_cons (we_lst (wa_cons (we_tup (wa_cons (we_name 2 rfl (wa_cons (we_name 2 rfl (wa_nil ⟨by simp, ?_⟩)))))))))))
    refine wa_cons (we_tup (wa_cons (we_name 3 rfl (wa_cons (we_name 3 rfl (wa_nil ⟨by simp, ?_⟩))))))
    refine wa_cons (we_tup (wa_cons (we_name 4 rfl (wa_cons (we_min2 rfl rfl gMin (we_int (we_bin op_add (we_name 4 rfl (we_callH hP hr1 (wa_cons (we_name 0 rfl (wa_cons (we_int (wa_nil ⟨l, 300, n + 1 + 5 + 5 + 5, rfl, by decide, by decide, d4, by omega, fun r S5 hr5 b5 d5 => r2_int0 ⟨_, _, rfl, rfl, wa_nil ⟨by simp, wa_nil ⟨by simp, wa_nil ?_⟩⟩⟩⟩))))))))))))))
    have em : (if ((e3.pl : Nat) : Int) + ((r : Nat) : Int) < 999999 then ((e3.pl : Nat) : Int) + ((r : Nat) : Int) else 999999) = ((min 999999 (e3.pl + r) : Nat) : Int) := by split <;> omega
    rw [em]
    refine ⟨_, [(x, x), (y, y), (e3.pl, min 999999 (e3.pl + r))], rfl, rfl, ?_, by simp, fun g S6 hg k6 => k g S6 hg (b13.trans (b4.trans (b5.trans (But.of_keep k6)))) ((d5.keep k6).mono (by omega))⟩
    intro p hp
    simp only [List.mem_cons, List.not_mem_nil, or_false] at hp
    rcases hp with z | z | z <;> subst z <;> simp only <;> omega
  refine .inr ⟨decide_eq_false h5, wb_nil ?_⟩
  refine wb_cons (ws_ret (we_callH hJ hr (wa_cons (we_bin op_rep (we_lstC (wa_cons (we_tup (wa_cons (we_name 2 rfl (wa_cons (we_name 3 rfl (wa_nil ⟨by simp, wa_nil ⟨by simp, ?_⟩⟩))))))))))))
  have d3' := d3.keep (Keep.refl.push (c := Cell.lst [D.tup [.int (x : Nat), .int (y : Nat)]]))
  have hl3 := d3.lt
  refine we_callH hP hr1 (wa_cons (we_name 0 rfl (wa_cons (we_int (wa_nil ⟨l, 2, n + 1 + 5 + 5, rfl, by decide, by decide, d3', by omega, fun r S4 hr4 b4 d4 => ?_⟩)))))
  refine r2_rep (b4.get get_new (by omega) (by omega)) (by omega) (by simp) (wa_nil ?_)
  refine ⟨_, List.replicate r (x, y), rfl, ?_, fun p hp => ?_, by rw [List.length_replicate]; omega, fun g S6 hg k6 => k g S6 hg (b13.trans (but_push.trans (b4.trans (But.of_keep k6)))) ((d4.keep k6).mono (by omega))⟩
  · show (List.replicate r [prD (x, y)]).flatten = _
    rw [List.map_replicate, List.flatten_replicate_singleton]
  · rw [List.eq_of_mem_replicate hp]
    exact ⟨hxy, hy⟩
end
end Wy
set_option Elab.async false
set_option linter.all false
set_option maxRecDepth 100000
set_option maxHeartbeats 4000000
namespace Wy
open PySem PySem.Spec PyProof.Rows L2 Ab
/-! ### drawn needs -/
def fs2 : List Str := ["fast", "slim"]
theorem name_fast : NameOk "fast" := ⟨by decide +kernel, by decide +kernel, by decide +kernel⟩
theorem name_slim : NameOk "slim" := ⟨by decide +kernel, by decide +kernel, by decide +kernel⟩
theorem fs2_nm : ∀ s ∈ fs2, NameOk s := fun s hs => by
  simp only [fs2, List.mem_cons, List.not_mem_nil, or_false] at hs
  rcases hs with e | e <;> subst e
  · exact name_fast
  · exact name_slim
theorem fast_slim : ltS "fast" "slim" := by decide +kernel
theorem fs2_asc : fs2.Pairwise ltS := List.pairwise_cons.mpr ⟨fun s hs => by rw [List.mem_singleton.mp hs]; exact fast_slim, List.pairwise_singleton _ _⟩
theorem exs_of {l : List Str} (h : l.Sublist fs2) : ExsOk l := ⟨Nat.le_trans h.length_le (by decide), fun s hs => fs2_nm s (h.subset hs), fs2_asc.sublist h⟩
def cLawNeed : Ct := fun ds S Φ Ψ => ∃ (l n : Nat) (nm : Str), ds = [.ptr l, .str nm, .lst (fs2.map D.str)] ∧ NameOk nm ∧ DeckAt S l n ∧ n ≤ 700000 ∧ ∀ (q : Nd) S', NdOk q → q.name = nm → But l l S S' → DeckAt S' l (n + 22) → Φ (ndD q) S'
def cLawNeeds : Ct := fun ds S Φ Ψ => ∃ (l n : Nat) (ns : List Str) (m : Nat), ds = [.ptr l, .lst (ns.map D.str), .int (m : Nat)] ∧ ns.length ≤ 10 ∧ (∀ s ∈ ns, NameOk s) ∧ m ≤ 3 ∧ DeckAt S l n ∧ n ≤ 600000 ∧
  ∀ (qs : List Nd) S', NdsOk qs → (∀ q ∈ qs, q.name ∈ ns) → But l l S S' → DeckAt S' l (n + 100) → Φ (.tup (qs.map ndD)) S'
/-- a table of needs by names -/
structure NTab (ns : List Str) (t : List (Key × D)) : Prop where
  at_ : ∀ p ∈ t, ∃ q : Nd, p = (.inr q.name, ndD q) ∧ NdOk q ∧ q.name ∈ ns
  nod : (t.map fun p => p.1).Nodup
theorem ntab_nil (ns : List Str) : NTab ns [] := ⟨fun p h => (by cases h), List.nodup_nil⟩
theorem ntab_put {ns : List Str} {t : List (Key × D)} (h : NTab ns t) {q : Nd} (hq : NdOk q) (hn : q.name ∈ ns) : NTab ns (putA t (.inr q.name) (ndD q)) := by
  refine ⟨fun p hp => ?_, ?_⟩
  · rcases putA_mem hp with z | z
    · exact h.at_ p z
    · exact ⟨q, z, hq, hn⟩
  · rw [putA_keys]
    split
    · exact h.nod
    · rename_i hk
      exact List.nodup_append.mpr ⟨h.nod, by simp, fun a ha b hb e => hk (by rw [List.mem_singleton.mp hb] at e; rw [← e]; exact ha)⟩
def keyS : Key → Str
  | .inr s => s
  | .inl _ => ""
theorem ntab_keys {ns : List Str} {t : List (Key × D)} (h : NTab ns t) : t.map (fun p => p.1) = (t.map fun p => keyS p.1).map Sum.inr := by
  rw [List.map_map]
  refine List.map_congr_left fun p hp => ?_
  obtain ⟨q, e, _⟩ := h.at_ p hp
  rw [e]
  rfl
theorem ntab_get {ns : List Str} {t : List (Key × D)} (h : NTab ns t) {y : Str} (hy : y ∈ t.map fun p => keyS p.1) : ∃ q : Nd, NdOk q ∧ q.name = y ∧ y ∈ ns ∧ getA t (.inr y) = some (ndD q) := by
  obtain ⟨p, hp, e⟩ := List.mem_map.mp hy
  obtain ⟨q, e1, e2, e3⟩ := h.at_ p hp
  rw [e1] at e
  have e : q.name = y := e
  subst e
  rw [e1] at hp
  exact ⟨q, e2, rfl, e3, getA_mem h.nod hp⟩
theorem ntab_all {ns : List Str} {t : List (Key × D)} (h : NTab ns t) : ∀ {ys : List Str}, (∀ y ∈ ys, y ∈ t.map fun p => keyS p.1) → ∃ qs : List Nd, qs.map (·.name) = ys ∧ (∀ q ∈ qs, NdOk q ∧ q.name ∈ ns) ∧ ys.map (fun y => (getA t (.inr y)).getD .non) = qs.map ndD
  | [], _ => ⟨[], rfl, fun q hq => (by cases hq), rfl⟩
  | y :: ys, hy => by
    obtain ⟨qs, a, b, c⟩ := ntab_all h (ys := ys) fun z hz => hy z (List.mem_cons_of_mem _ hz)
    obtain ⟨q, e1, e2, e3, e4⟩ := ntab_get h (hy y List.mem_cons_self)
    refine ⟨q :: qs, by rw [List.map_cons, a, e2], fun p hp => ?_, by rw [List.map_cons, List.map_cons, c, e4]; rfl⟩
    rcases List.mem_cons.mp hp with z | z
    · rw [z, e2]
      exact ⟨e1, e3⟩
    · exact b p z
theorem asc_of {ys : List Str} (hs : sortedS ys = true) (hn : ys.Nodup) : ys.Pairwise ltS := by
  have h1 := sorted_pw hs
  refine (h1.and hn).imp fun {a b} ⟨x, y⟩ => ?_
  have le : a.cps.toList ≤ b.cps.toList := List.not_lt.mp x
  rcases List.le_iff_lt_or_eq.mp le with z | z
  · exact z
  · exact absurd (str_ext z) y
section
variable {P : Program} {w : World} {K : PySem.W.Frag} {mg : Str → Option Value} {base : Heap} {f : Addr} {fd : FuncData} {C : Addr}
abbrev nLawNeed : List Str := ["deck", "name", "extras", "wanted", "extra"]
theorem scLawNeed : FnScope nLawNeed ["deck", "name", "extras"] (defScope s__law_need) := ⟨rfl, rfl, rfl, by decide +kernel, rfl, by decide +kernel, by decide +kernel⟩
theorem ok_lawNeed (F : FnP K "_law_need" s__law_need f fd) (hm : mg "_law_need" = some (.ref f)) (gT : mg "tuple" = none) (hP : Has P w K mg base 1 "_law_pick" ["deck", "many"] cPick) (hS : Has P w K mg base 3 "_law_span" ["deck"] cLawSpan) : Has P w K mg base 4 "_law_need" ["deck", "name", "extras"] cLawNeed := by
  refine fnH_of nLawNeed F hm cLawNeed (fun _ _ _ _ _ _ us hl => match us, hl with | [_, _, _], _ => rfl) scLawNeed (fun ds S Φ Ψ h => by obtain ⟨_, _, _, rfl, _⟩ := h; rfl) ?_
  intro cdv A outer s H E hr ds S Φ Ψ ⟨l, n, nm, ed, hnm, dk, hn, k⟩
  subst ed
  have nd := scLawNeed.nd
  refine wb_cons (ws_lc (i := 3) (own := [("extra", 4)]) (g := gName 4) rfl nd (blkOk_by (N := nLawNeed) (sc := defScope s__law_need) (by decide +kernel)) (fun _ _ _ _ _ => pg_name nd rfl (.inl rfl) (.inr rfl)) ?_)
  refine wi_list (we_name 2 rfl ⟨_, rfl, fun j acc S2 => ∃ sel : List Str, acc = sel.map D.str ∧ sel.Sublist (fs2.take j) ∧ But l l S S2 ∧ DeckAt S2 l (n + j), by decide, ⟨[], rfl, by simp, .refl, dk⟩, ?_, ?_, ?_⟩)
  · rintro j acc S2 hj ⟨sel, rfl, sub, _⟩
    refine ⟨rfl, ?_⟩
    have := sub.length_le
    rw [List.length_take] at this
    rw [List.length_map]
    omega
  · rintro j y acc S2 hy ⟨sel, rfl, sub, bt2, dk2⟩
    rw [List.getElem?_map] at hy
    obtain ⟨o, hj, rfl⟩ := Option.map_eq_some_iff.mp hy
    have hjl := lt_of_some hj
    have hj2 : j < 2 := hjl
    refine ⟨_, tc_name (by decide), fun s H0 C cl fp => ?_⟩
    refine wt_cmp op_eq rfl (we_callH hP (hr.mono (by decide)) (wa_cons (we_name 0 rfl (wa_cons (we_int (wa_nil ⟨l, 4, n + j, rfl, by decide, by decide, dk2, by omega, fun r S3 hr bt3 dk3 => we_int (r2_eqI ⟨_, rfl, ifD ?_⟩)⟩))))))
    by_cases h0 : (r : Int) = 0
    · refine .inl ⟨decide_eq_true h0, fun s H0 C cl fp => we_name 4 rfl ⟨sel ++ [o], by rw [List.map_append]; rfl, ?_, bt2.trans bt3, dk3⟩⟩
      rw [take_snoc hj]
      exact sub.append (List.Sublist.refl _)
    · refine .inr ⟨decide_eq_false h0, sel, rfl, ?_, bt2.trans bt3, dk3⟩
      rw [take_snoc hj]
      exact sub.trans (List.sublist_append_left _ _)
  · rintro acc S2 ⟨sel, rfl, sub, bt2, dk2⟩
    rw [List.length_map, List.take_length] at sub
    have e2 : (fs2.map D.str).length = 2 := rfl
    rw [e2] at dk2
    refine wb_cons (ws_ret (we_tup (wa_cons (we_name 1 rfl (wa_cons (we_callH hS hr (wa_cons (we_name 0 rfl (wa_nil ⟨l, n + 2, rfl, dk2, by omega, fun g S3 hg bt3 dk3 => ?_⟩)))))))))
    refine wa_cons (we_tupF rfl gT (we_name 3 rfl ⟨sel.map D.str, rfl, wa_nil ⟨by simp, ?_⟩⟩))
    exact k ⟨nm, g, sel⟩ S3 ⟨hnm, hg, exs_of sub⟩ rfl (bt2.trans bt3) (dk3.mono (by omega))
abbrev nLawNeeds : List Str := ["deck", "names", "most_told", "found", "k", "name"]
theorem scLawNeeds : FnScope nLawNeeds ["deck", "names", "most_told"] (defScope s__law_needs) := ⟨rfl, rfl, rfl, by decide +kernel, rfl, by decide +kernel, by decide +kernel⟩
theorem ok_lawNeeds (F : FnP K "_law_needs" s__law_needs f fd) (hm : mg "_law_needs" = some (.ref f)) (gT : mg "tuple" = none) (gR : mg "range" = none) (gL : mg "len" = none) (gS : mg "sorted" = none) (hP : Has P w K mg base 1 "_law_pick" ["deck", "many"] cPick) (hN : Has P w K mg base 4 "_law_need" ["deck", "name", "extras"] cLawNeed) : Has P w K mg base 5 "_law_needs" ["deck", "names", "most_told"] cLawNeeds := by
  refine fnH_of nLawNeeds F hm cLawNeeds (fun _ _ _ _ _ _ us hl => match us, hl with | [_, _, _], _ => rfl) scLawNeeds (fun ds S Φ Ψ h => by obtain ⟨_, _, _, _, rfl, _⟩ := h; rfl) ?_
  intro cdv A outer s H E hr ds S Φ Ψ ⟨l, n, ns, m, ed, hz, hns, hm3, dk, hn, k⟩
  subst ed
  have nd := scLawNeeds.nd
  have hu : A.units + 3 + 80 < cLine := hu80 hr
  have hl := dk.lt
  refine wb_cons (ws_set 3 nd (we_dicC ?_))
  refine wb_cons (ws_forI (passes_of rfl) rfl (wi_range rfl gR (we_callH hP (hr.mono (by decide)) (wa_cons (we_name 0 rfl (wa_cons (we_bin op_add (we_name 2 rfl (we_int (r2_int0 (wa_nil ⟨l, m + 1, n, by rw [show ((m : Nat) : Int) + 1 = ((m + 1 : Nat) : Int) by omega], by omega, by omega, dk.keep Keep.refl.push, by omega, fun r S1 hr1 b1 d1 => ?_⟩)))))))))))
  have g1 : S1[S.length]? = some (cK []) := b1.get get_new (by omega) (by omega)
  refine ⟨r, rfl, by omega, fun i Γ' S' => (∃ a b, Γ' = [some (.ptr l), some (.lst (ns.map D.str)), some (.int (m : Nat)), some (.ptr S.length), a, b]) ∧ But l l S S' ∧ DeckAt S' l (n + 1 + i * 23) ∧ ∃ t, S'[S.length]? = some (cK t) ∧ NTab ns t ∧ t.length ≤ i, ?_, fun _ _ _ _ _ => trivial, ?_, ?_⟩
  · exact ⟨⟨_, _, rfl⟩, but_push.trans b1, d1.mono (by omega), [], g1, ntab_nil ns, Nat.le_refl _⟩
  · rintro i z Γ' S' hz2 ⟨⟨a, b, rfl⟩, bk, dk2, t, gt, nt, htl⟩
    obtain ⟨rfl, hi⟩ := rngD_inv hz2
    refine wg_name 4 ?_ nd
    have okn : okD (.lst (ns.map D.str)) = true := okD_strs fun s hs => (hns s hs).sok
    refine wb_cons (ws_if (wt_cmp (op_neD (by show A.units + 3 + 64 < cLine; omega)) rfl (we_name 1 rfl (we_lst (wa_nil ⟨by simp, r2_neD (d := .lst (ns.map D.str)) (e := .lst []) rfl rfl okn (by decide +kernel) (eqv_nil _) ⟨_, rfl, ifD ?_⟩⟩)))))
    by_cases hne : ns = []
    · refine .inr ⟨by simp [hne], wb_nil (wb_nil ⟨⟨_, _, rfl⟩, bk, dk2.mono (by omega), t, gt, nt, by omega⟩)⟩
    · refine .inl ⟨by simp [hne], ?_⟩
      have hpos : 0 < ns.length := List.length_pos_iff.mpr hne
      refine wb_cons (ws_set 5 nd (we_ix ix_list (we_name 1 rfl (we_callH hP (hr.mono (by decide)) (wa_cons (we_name 0 rfl (wa_cons (we_len rfl gL (we_name 1 rfl ⟨ns.map D.str, rfl, wa_nil ⟨l, ns.length, n + 1 + i * 23, by rw [List.length_map], hpos, by omega, dk2, by omega, fun r2 S2 hr2 b2 d2 => ?_⟩⟩)))))))))
      obtain ⟨nm, hnm⟩ := get_lt hr2
      have hmem := List.mem_of_getElem? hnm
      refine r2_ixL (ds := ns.map D.str) (d := .str nm) rfl (atI_nat (by rw [List.getElem?_map, hnm]; rfl)) ?_
      refine wb_cons (ws_dput (by show A.units + 3 + 1 < cLine; omega) (we_callH hN hr (wa_cons (we_name 0 rfl (wa_cons (we_name 5 rfl (wa_cons (we_lst (wa_cons (we_str (wa_cons (we_str (wa_nil ⟨by simp, wa_nil ⟨l, n + 1 + i * 23 + 1, nm, rfl, hns nm hmem, d2, by omega, fun q S3 hq eq b3 d3 => ?_⟩⟩)))))))))))))
      have b23 : But l l S' S3 := b2.trans b3
      have gt3 := b23.get gt (by omega) (by omega)
      refine we_name 3 rfl (we_name 5 rfl ⟨S.length, t, .inr nm, rfl, gt3, rfl, by omega, wb_nil (wb_nil ⟨⟨_, _, rfl⟩, ?_, ?_, _, get_set gt3, ?_, ?_⟩)⟩)
      · exact But.step (bk.trans b23) But.set1 (Nat.le_refl _)
      · have := d3.but (But.set1 (a := S.length) (b := S.length) (c := cK (putA t (.inr nm) (ndD q)))) (by omega) (by omega)
        exact this.mono (by omega)
      · rw [← eq]
        exact ntab_put nt hq (by rw [eq]; exact hmem)
      · have := putA_len t (.inr nm : Key) (ndD q)
        omega
  · rintro Γ' S' ⟨⟨a, b, rfl⟩, bk, dk2, t, gt, nt, htl⟩
    rw [rngD_len] at htl dk2
    refine wb_cons (ws_ret (we_tupF rfl gT ?_))
    refine we_lc (own := [("name", 5)]) (g := gName 5) rfl nd (blkOk_by (N := nLawNeeds) (sc := defScope s__law_needs) (by decide +kernel)) (fun _ _ _ _ _ => pg_name nd rfl (.inl rfl) (.inr rfl)) ?_
    refine wi_list (we_sortedD rfl rfl gS (we_name 3 rfl ⟨t, t.map (fun p => keyS p.1), gt, ntab_keys nt, by rw [List.length_map]; omega, fun ys h1 h2 => ?_⟩))
    have hmem : ∀ y ∈ ys, y ∈ t.map fun p => keyS p.1 := fun y hy => h1.mem_iff.mp hy
    have hyl := h1.length_eq
    rw [List.length_map] at hyl
    obtain ⟨qs, e1, e2, e3⟩ := ntab_all nt hmem
    have nodk : (t.map fun p => keyS p.1).Nodup := by
      have := nt.nod
      rw [ntab_keys nt] at this
      exact (List.pairwise_map.mp this).imp fun h e => h (congrArg _ e)
    refine ⟨ys.map D.str, rfl, lc_mapE D.str ys rfl (fun y => (getA t (.inr y)).getD .non) (by rw [List.length_map]; omega) (fun _ _ => rfl) (fun j y S2 hy k2 => ?_) fun S2 k2 => ⟨_, rfl, ?_⟩⟩
    · obtain ⟨q, q1, q2, q3, q4⟩ := ntab_get nt (hmem y (List.mem_of_getElem? hy))
      exact ⟨_, tc_name (by decide), fun s H0 C cl fp => we_dget (by show A.units + 3 + 1 < cLine; omega) (we_name 3 rfl (we_name 5 rfl ⟨t, .inr y, ndD q, k2.get gt, rfl, q4, by rw [q4]; rfl, k2⟩))⟩
    · rw [e3]
      have hqs := congrArg List.length e1
      rw [List.length_map] at hqs
      refine k qs S2 ⟨by omega, fun q hq => (e2 q hq).1, ?_⟩ (fun q hq => (e2 q hq).2) (bk.trans (But.of_keep k2)) ((dk2.keep k2).mono (by omega))
      rw [e1]
      exact asc_of h2 (h1.nodup_iff.mpr nodk)
end
end Wy
set_option Elab.async false
set_option linter.all false
set_option maxRecDepth 100000
set_option maxHeartbeats 4000000
namespace Wy
open PySem PySem.Spec PyProof.Rows L2 Ab
/-! ### a drawn ware -/
theorem cps_app (a b : Str) : (a ++ b).cps.toList = a.cps.toList ++ b.cps.toList := by
  show (a.cps ++ b.cps).toList = _
  simp
theorem path_of {nm s : Str} (h : NameOk nm) (hs : s.length = 2) (hc : ∀ c ∈ s.cps.toList, c ∈ (lettersS ++ "0123456789./").cps.toList) : PathOk (nm ++ s) := by
  have h1 := h.lo
  have h2 := h.hi
  refine ⟨by rw [str_len_append]; omega, by rw [str_len_append]; omega, fun c hc2 => ?_⟩
  rw [cps_app] at hc2
  rcases List.mem_append.mp hc2 with z | z
  · rw [cps_app]
    exact List.mem_append_left _ (h.ch c z)
  · exact hc c z
theorem path_a {nm : Str} (h : NameOk nm) : PathOk (nm ++ "/a") := path_of h rfl (by decide +kernel)
theorem path_b {nm : Str} (h : NameOk nm) : PathOk (nm ++ "/b") := path_of h rfl (by decide +kernel)
theorem path_c {nm : Str} (h : NameOk nm) : PathOk (nm ++ "/c") := path_of h rfl (by decide +kernel)
theorem path_d {nm : Str} (h : NameOk nm) : PathOk (nm ++ "/d") := path_of h rfl (by decide +kernel)
theorem pre_lt {a b : List Nat} (h : a < b) : ∀ p : List Nat, p ++ a < p ++ b
  | [] => h
  | x :: p => by
    rw [List.cons_append, List.cons_append, List.cons_lt_cons_iff]
    exact .inr ⟨rfl, pre_lt h p⟩
theorem ab_lt (nm : Str) : ltS (nm ++ "/a") (nm ++ "/b") := by
  show (nm ++ "/a").cps.toList < (nm ++ "/b").cps.toList
  rw [cps_app, cps_app]
  exact pre_lt (by decide +kernel) _
def okCh (c : Nat) : Prop := (32 ≤ c ∧ c ≤ 126 ∧ c ≠ 37) ∨ c = 10
instance (c : Nat) : Decidable (okCh c) := by unfold okCh; infer_instance
theorem lett_ok : ∀ c ∈ lettersS.cps.toList, okCh c := by decide +kernel
theorem num_ok {n : Nat} (h : n ≤ 99) : ∀ c ∈ (numS n).cps.toList, okCh c := by
  have h2 : ∀ k : Fin 100, ∀ c ∈ (numS k.val).cps.toList, okCh c := by decide +kernel
  exact h2 ⟨n, by omega⟩
def tailS : List Str := ["", "~", "\n", " x"]
theorem tail_ok : ∀ s ∈ tailS, s.length ≤ 2 ∧ ∀ c ∈ s.cps.toList, okCh c := by decide +kernel
theorem text_of {nm tl : Str} {a b : Nat} (h : NameOk nm) (ha : a ≤ 99) (hb : b ≤ 99) (ht : tl ∈ tailS) : TextOk (((nm ++ numS a) ++ numS b) ++ tl) := by
  have h1 := h.hi
  have h2 := numS_len ha
  have h3 := numS_len hb
  obtain ⟨t1, t2⟩ := tail_ok tl ht
  refine ⟨by simp only [str_len_append]; omega, fun c hc => ?_⟩
  rw [cps_app, cps_app, cps_app] at hc
  show okCh c
  rcases List.mem_append.mp hc with hc | hc
  · rcases List.mem_append.mp hc with hc | hc
    · rcases List.mem_append.mp hc with hc | hc
      · exact lett_ok c (h.ch c hc)
      · exact num_ok ha c hc
    · exact num_ok hb c hc
  · exact t2 c hc
theorem rev_ok {t : Str} (h : TextOk t) : TextOk (revS t) := ⟨Nat.le_trans (revS_len t) h.hi, fun c hc => h.ch c (revS_mem hc)⟩
def endS : List Str := ["", "b"]
theorem end_ok : ∀ s ∈ endS, TextOk s := fun s hs => by
  simp only [endS, List.mem_cons, List.not_mem_nil, or_false] at hs
  rcases hs with e | e <;> subst e
  · exact ⟨by decide +kernel, by decide +kernel⟩
  · exact ⟨by decide +kernel, by decide +kernel⟩
def stepsOf (nm tx : Str) : List Stp := [.put (nm ++ "/c") (revS tx), .join (nm ++ "/d") [nm ++ "/a", nm ++ "/b"], .drop (nm ++ "/b")]
theorem steps_ok {nm tx : Str} (h : NameOk nm) (ht : TextOk tx) : ∀ s ∈ stepsOf nm tx, StOk s := fun s hs => by
  simp only [stepsOf, List.mem_cons, List.not_mem_nil, or_false] at hs
  rcases hs with e | e | e <;> subst e
  · exact ⟨path_c h, rev_ok ht⟩
  · refine ⟨path_d h, by simp, by simp, fun x hx => ?_⟩
    simp only [List.mem_cons, List.not_mem_nil, or_false] at hx
    rcases hx with e | e <;> subst e
    · exact path_a h
    · exact path_b h
  · exact path_b h
def cLawWare : Ct := fun ds S Φ Ψ => ∃ (l n : Nat) (nm : Str) (e : Ed) (ns : List Str), ds = [.ptr l, .str nm, edD e, .lst (ns.map D.str)] ∧ NameOk nm ∧ e.Ok ∧ ns.length ≤ 10 ∧ (∀ s ∈ ns, NameOk s) ∧ DeckAt S l n ∧ n ≤ 500000 ∧
  ∀ (q : Wa) S', WaOk q → q.name = nm → q.ed = e → But l l S S' → DeckAt S' l (n + 400) → Φ (waD q) S'
section
variable {P : Program} {w : World} {K : PySem.W.Frag} {mg : Str → Option Value} {base : Heap} {f : Addr} {fd : FuncData} {C : Addr}
abbrev nLawWare : List Str := ["deck", "name", "edition", "names", "others", "extras", "extra", "text", "files", "steps", "one"]
theorem scLawWare : FnScope nLawWare ["deck", "name", "edition", "names"] (defScope s__law_ware) := ⟨rfl, rfl, rfl, by decide +kernel, rfl, by decide +kernel, by decide +kernel⟩
theorem ok_lawWare (F : FnP K "_law_ware" s__law_ware f fd) (hm : mg "_law_ware" = some (.ref f)) (gT : mg "tuple" = none) (gStr : mg "str" = none) (hP : Has P w K mg base 1 "_law_pick" ["deck", "many"] cPick) (hN : Has P w K mg base 5 "_law_needs" ["deck", "names", "most_told"] cLawNeeds) : Has P w K mg base 6 "_law_ware" ["deck", "name", "edition", "names"] cLawWare := by
  refine fnH_of nLawWare F hm cLawWare (fun _ _ _ _ _ _ us hl => match us, hl with | [_, _, _, _], _ => rfl) scLawWare (fun ds S Φ Ψ h => by obtain ⟨_, _, _, _, _, rfl, _⟩ := h; rfl) ?_
  intro cdv A outer s H E hr ds S Φ Ψ ⟨l, n, nm, e, ns, ed, hnm, he, hz, hns, dk, hn, k⟩
  subst ed
  have nd := scLawWare.nd
  have hl := dk.lt
  have hr1 := hr.mono (show 1 ≤ 5 by decide)
  refine wb_cons (ws_lc (i := 4) (own := [("one", 10)]) (g := gName 10) rfl nd (blkOk_by (N := nLawWare) (sc := defScope s__law_ware) (by decide +kernel)) (fun _ _ _ _ _ => pg_name nd rfl (.inl rfl) (.inr rfl)) ?_)
  refine wi_list (we_name 3 rfl ⟨_, rfl, lc_filterE D.str ns rfl (fun s => !decide (s = nm)) D.str (by rw [List.length_map]; omega) (fun _ _ => rfl) (fun i x S' hx kp => ⟨_, tc_name (by decide), fun s H0 C cl fp => wt_cmp op_ne rfl (we_name 10 rfl (we_name 1 rfl (r2_neS ⟨_, rfl, rfl, kp, fun _ s H0 C cl fp => we_name 10 rfl ⟨rfl, kp⟩⟩)))⟩) fun S1 k1 => ?_⟩)
  have hot : ∀ s ∈ ns.filter (fun s => !decide (s = nm)), NameOk s ∧ s ≠ nm := fun s hs => by
    obtain ⟨a, b⟩ := List.mem_filter.mp hs
    exact ⟨hns s a, by simpa using b⟩
  have hoz : (ns.filter (fun s => !decide (s = nm))).length ≤ 10 := Nat.le_trans (List.length_filter_le _ _) hz
  generalize ns.filter (fun s => !decide (s = nm)) = os at hot hoz ⊢
  have d1 := dk.keep k1
  have kl := k1.len
  refine wb_cons (ws_set 5 nd (we_lstC (wa_nil ⟨by simp, ?_⟩)))
  refine wb_cons (ws_forI (passes_of rfl) rfl (wi_list (we_lst (wa_cons (we_str (wa_cons (we_str (wa_nil ⟨by simp, fs2.map D.str, rfl, fun i Γ' S' => (∃ a b c d f, Γ' = [some (.ptr l), some (.str nm), some (edD e), some (.lst (ns.map D.str)), some (.lst (os.map D.str)), some (.ptr S1.length), a, b, c, d, f]) ∧ But l l S S' ∧ DeckAt S' l (n + i * 101) ∧ ∃ xs : List (Str × List Nd), S'[S1.length]? = some (.lst (xs.map exD)) ∧ (xs.map (·.1)).Sublist (fs2.take i) ∧ (∀ x ∈ xs, NdsOk x.2 ∧ ∀ q ∈ x.2, q.name ∈ os), ?_, fun _ _ _ _ _ => rfl, ?_, ?_⟩))))))))
  · exact ⟨⟨_, _, _, _, _, rfl⟩, (But.of_keep k1).trans but_push, (d1.keep Keep.refl.push).mono (by omega), [], get_new, by simp, fun x hx => by cases hx⟩
  · rintro i y Γ' S' hy ⟨⟨a, b, c, d, f1, rfl⟩, bk, dk2, xs, gx, sub, hx⟩
    rw [List.getElem?_map] at hy
    obtain ⟨o, hoi, rfl⟩ := Option.map_eq_some_iff.mp hy
    have hi : i < 2 := lt_of_some hoi
    refine wg_name 6 ?_ nd
    refine wb_cons (ws_if (wt_cmp op_eq rfl (we_callH hP hr1 (wa_cons (we_name 0 rfl (wa_cons (we_int (wa_nil ⟨l, 2, n + i * 101, rfl, by decide, by decide, dk2, by omega, fun r S2 hr2 b2 d2 => we_int (r2_eqI ⟨_, rfl, ifD ?_⟩)⟩))))))))
    have gx2 := b2.get gx (by omega) (by omega)
    by_cases h0 : (r : Int) = 0
    · refine .inl ⟨decide_eq_true h0, ?_⟩
      refine wb_cons (ws_expr (we_append (we_name 5 rfl ⟨S1.length, rfl, ⟨_, gx2⟩, we_tup (wa_cons (we_name 6 rfl (wa_cons (we_callH hN hr (wa_cons (we_name 0 rfl (wa_cons (we_name 4 rfl (wa_cons (we_int (wa_nil ⟨l, n + i * 101 + 1, os, 1, rfl, hoz, fun s hs => (hot s hs).1, by decide, d2, by omega, fun qs S3 hqs hq b3 d3 => ?_⟩)))))))))))⟩)))
      have gx3 := b3.get gx2 (by omega) (by omega)
      have hxl := sub.length_le
      rw [List.length_map, List.length_take] at hxl
      refine wa_nil ⟨by simp, _, gx3, by rw [List.length_map]; omega, wb_nil (wb_nil ⟨⟨_, _, _, _, _, rfl⟩, ?_, ?_, xs ++ [(o, qs)], ?_, ?_, ?_⟩)⟩
      · exact But.step (bk.trans (b2.trans b3)) But.set1 (by omega)
      · exact (d3.but (But.set1 (a := S1.length) (b := S1.length)) (by omega) (by omega)).mono (by omega)
      · rw [List.map_append]
        exact get_set gx3
      · rw [take_snoc hoi, List.map_append]
        exact sub.append (List.Sublist.refl _)
      · intro x hx2
        rcases List.mem_append.mp hx2 with z | z
        · exact hx x z
        · rw [List.mem_singleton.mp z]
          exact ⟨hqs, hq⟩
    · refine .inr ⟨decide_eq_false h0, wb_nil (wb_nil ⟨⟨_, _, _, _, _, rfl⟩, bk.trans b2, d2.mono (by omega), xs, gx2, ?_, hx⟩)⟩
      rw [take_snoc hoi]
      exact sub.trans (List.sublist_append_left _ _)
  · rintro Γ' S2 ⟨⟨a, b, c, d, f1, rfl⟩, bk, dk2, xs, gx, sub, hx⟩
    have e2 : (fs2.map D.str).length = 2 := rfl
    rw [e2] at dk2 sub
    have sub2 : (xs.map (·.1)).Sublist fs2 := sub
    have h1 := he.a
    have h2 := he.b
    have l1 := numS_len h1
    have l2 := numS_len h2
    have l0 := hnm.hi
    have hS1 : S1.length < S2.length := lt_of_get gx
    refine wb_cons (ws_set 7 nd (we_bin op_add_str (we_bin op_add_str (we_bin op_add_str (we_name 1 rfl (we_strI rfl gStr (we_ix ix_tup (we_name 2 rfl (we_int (r2_ixT rfl ⟨_, rfl, log_small (by omega), r2_addS ?_ ?_⟩))))))))))
    · show nm.length + (numS e.a).length ≤ 1000000
      omega
    refine we_strI rfl gStr (we_ix ix_tup (we_name 2 rfl (we_int (r2_ixT rfl ⟨_, rfl, log_small (by omega), r2_addS ?_ ?_⟩))))
    · show (nm ++ numS e.a).length + (numS e.b).length ≤ 1000000
      rw [str_len_append]
      omega
    refine we_ix ix_list (we_lst (wa_cons (we_str (wa_cons (we_str (wa_cons (we_str (wa_cons (we_str (wa_nil ⟨by simp, ?_⟩))))))))))
    refine we_callH hP hr1 (wa_cons (we_name 0 rfl (wa_cons (we_int (wa_nil ⟨l, 4, n + 2 * 101, rfl, by decide, by decide, dk2, by omega, fun r3 S3 hr3 b3 d3 => ?_⟩)))))
    obtain ⟨tl, htl⟩ : ∃ tl, tailS[r3]? = some tl := get_lt (l := tailS) hr3
    have htm := List.mem_of_getElem? htl
    refine r2_ixL (ds := tailS.map D.str) (d := .str tl) rfl (atI_nat (by rw [List.getElem?_map, htl]; rfl)) (r2_addS ?_ ?_)
    · have := (tail_ok tl htm).1
      show ((nm ++ numS e.a) ++ numS e.b).length + tl.length ≤ 1000000
      simp only [str_len_append]
      omega
    have htx : TextOk (((nm ++ numS e.a) ++ numS e.b) ++ tl) := text_of hnm h1 h2 htm
    show WB _ _ (_ : List (Option D)) S3 _
    have etx : nm ++ (toString (((e.a : Nat) : Int)) : Str) ++ (toString (((e.b : Nat) : Int)) : Str) ++ tl = ((nm ++ numS e.a) ++ numS e.b) ++ tl := rfl
    rw [etx]
    generalize ((nm ++ numS e.a) ++ numS e.b) ++ tl = tx at htx ⊢
    have ltx := htx.hi
    have ea : ("/a" : Str).length = 2 := rfl
    have eb : ("/b" : Str).length = 2 := rfl
    have ec : ("/c" : Str).length = 2 := rfl
    have edd : ("/d" : Str).length = 2 := rfl
    refine wb_cons (ws_set 8 nd (we_tup (wa_cons (we_tup (wa_cons (we_bin op_add_str (we_name 1 rfl (we_str (r2_addS (by omega) (wa_cons (we_name 7 rfl (wa_nil ⟨by simp, ?_⟩))))))))))))
    refine wa_cons (we_tup (wa_cons (we_bin op_add_str (we_name 1 rfl (we_str (r2_addS (by omega) (wa_cons (we_ix ix_list (we_lst (wa_cons (we_str (wa_cons (we_str (wa_nil ⟨by simp, ?_⟩))))))))))))))
    refine we_callH hP hr1 (wa_cons (we_name 0 rfl (wa_cons (we_int (wa_nil ⟨l, 2, n + 2 * 101 + 1, rfl, by decide, by decide, d3, by omega, fun r4 S4 hr4 b4 d4 => ?_⟩)))))
    obtain ⟨et, het⟩ : ∃ et, endS[r4]? = some et := get_lt (l := endS) hr4
    refine r2_ixL (ds := endS.map D.str) (d := .str et) rfl (atI_nat (by rw [List.getElem?_map, het]; rfl)) (wa_nil ⟨by simp, wa_nil ⟨by simp, ?_⟩⟩)
    have hend := end_ok et (List.mem_of_getElem? het)
    refine wb_cons (ws_set 9 nd (we_lst (wa_cons (we_tup (wa_cons (we_str (wa_cons (we_bin op_add_str (we_name 1 rfl (we_str (r2_addS (by omega) (wa_cons (we_revS (we_name 7 rfl ⟨tx, rfl, by omega, wa_nil ⟨by simp, ?_⟩⟩))))))))))))))
    refine wa_cons (we_tup (wa_cons (we_str (wa_cons (we_bin op_add_str (we_name 1 rfl (we_str (r2_addS (by omega) (wa_cons (we_tup (wa_cons (we_bin op_add_str (we_name 1 rfl (we_str (r2_addS (by omega) ?_)))))))))))))))
    refine wa_cons (we_bin op_add_str (we_name 1 rfl (we_str (r2_addS (by omega) (wa_nil ⟨by simp, wa_nil ⟨by simp, ?_⟩⟩)))))
    refine wa_cons (we_tup (wa_cons (we_str (wa_cons (we_bin op_add_str (we_name 1 rfl (we_str (r2_addS (by omega) (wa_nil ⟨by simp, wa_nil ⟨by simp, ?_⟩⟩)))))))))
    refine wb_cons (ws_ret (we_tup (wa_cons (we_name 1 rfl (wa_cons (we_name 2 rfl (wa_cons (we_callH hN hr (wa_cons (we_name 0 rfl (wa_cons (we_name 4 rfl (wa_cons (we_int (wa_nil ⟨l, n + 2 * 101 + 1 + 1, os, 3, rfl, hoz, fun s hs => (hot s hs).1, by decide, d4, by omega, fun qs S5 hqs hq b5 d5 => ?_⟩)))))))))))))))
    have b35 : But l l S2 S5 := b3.trans (b4.trans b5)
    refine wa_cons (we_tupF rfl gT (we_name 5 rfl ⟨xs.map exD, b35.get gx (by omega) (by omega), ?_⟩))
    refine wa_cons (we_name 8 rfl (wa_cons (we_tupF rfl gT (we_slice sl_list (we_name 9 rfl ?_)))))
    refine we_callH hP hr1 (wa_cons (we_name 0 rfl (wa_cons (we_int (wa_nil ⟨l, 4, n + 2 * 101 + 1 + 1 + 100, rfl, by decide, by decide, d5, by omega, fun r6 S6 hr6 b6 d6 => ⟨r6, rfl, rs_lst (xs := (stepsOf nm tx).map stD) rfl ⟨_, rfl, wa_nil ⟨by simp, ?_⟩⟩⟩⟩)))))
    rw [cut_to, ← List.map_take]
    refine k ⟨nm, e, qs, xs, [(nm ++ "/a", tx), (nm ++ "/b", et)], (stepsOf nm tx).take r6⟩ S6 ?_ rfl rfl (bk.trans (b35.trans b6)) (d6.mono (by omega))
    have hxl := sub2.length_le
    rw [List.length_map] at hxl
    have e22 : fs2.length = 2 := rfl
    refine ⟨hnm, he, hqs, by show xs.length ≤ 3; omega, fun x hx2 => ⟨?_, (hx x hx2).1⟩, fs2_asc.sublist sub2, fun q hq2 => ?_, by show 2 ≤ 6; omega, fun x hx2 => ?_, ?_, ?_, fun x hx2 => steps_ok hnm htx x (List.mem_of_mem_take hx2)⟩
    · exact fs2_nm _ (sub2.subset (List.mem_map.mpr ⟨x, hx2, rfl⟩))
    · rcases List.mem_append.mp hq2 with z | z
      · exact (hot _ (hq q z)).2
      · obtain ⟨x, hx2, hx3⟩ := List.mem_flatMap.mp z
        exact (hot _ ((hx x hx2).2 q hx3)).2
    · simp only [List.mem_cons, List.not_mem_nil, or_false] at hx2
      rcases hx2 with z | z <;> subst z
      · exact ⟨path_a hnm, htx⟩
      · exact ⟨path_b hnm, hend⟩
    · exact List.pairwise_cons.mpr ⟨fun z hz2 => by rw [List.mem_singleton.mp hz2]; exact ab_lt nm, List.pairwise_singleton _ _⟩
    · show ((stepsOf nm tx).take r6).length ≤ 8
      rw [List.length_take]
      have : (stepsOf nm tx).length = 3 := rfl
      omega
end
end Wy
set_option Elab.async false
set_option linter.all false
set_option maxRecDepth 100000
set_option maxHeartbeats 4000000
namespace Wy
open PySem PySem.Spec PyProof.Rows L2 Ab
/-! ### equality of entries; the law's own chain -/
theorem str_eqv (a b : Str) : PyData.eqv (toPy (.str a)) (toPy (.str b)) = decide (a = b) := by
  show (a == b) = _
  rw [Bool.eq_iff_iff]
  simp
theorem strs_eqv (l m : List Str) : PyData.eqv (toPy (strsD l)) (toPy (strsD m)) = decide (l = m) := list_eqv str_eqv l m
theorem nd_eqv (p q : Nd) : PyData.eqv (toPy (ndD p)) (toPy (ndD q)) = decide (p = q) := by
  obtain ⟨a, b, c⟩ := p
  obtain ⟨a', b', c'⟩ := q
  show (PyData.eqv (toPy (.str a)) (toPy (.str a')) && (PyData.eqv (toPy (rgD b)) (toPy (rgD b')) && (PyData.eqv (toPy (strsD c)) (toPy (strsD c')) && true))) = _
  rw [str_eqv, rg_eqv, strs_eqv, Bool.eq_iff_iff]
  simp only [Bool.and_eq_true, decide_eq_true_eq, Nd.mk.injEq, and_true]
theorem nds_eqv (l m : List Nd) : PyData.eqv (toPy (.tup (l.map ndD))) (toPy (.tup (m.map ndD))) = decide (l = m) := list_eqv nd_eqv l m
theorem ex_eqv (p q : Str × List Nd) : PyData.eqv (toPy (exD p)) (toPy (exD q)) = decide (p = q) := by
  obtain ⟨a, b⟩ := p
  obtain ⟨a', b'⟩ := q
  show (PyData.eqv (toPy (.str a)) (toPy (.str a')) && (PyData.eqv (toPy (.tup (b.map ndD))) (toPy (.tup (b'.map ndD))) && true)) = _
  rw [str_eqv, nds_eqv, Bool.eq_iff_iff]
  simp only [Bool.and_eq_true, decide_eq_true_eq, Prod.mk.injEq, and_true]
theorem fl_eqv (p q : Str × Str) : PyData.eqv (toPy (flD p)) (toPy (flD q)) = decide (p = q) := by
  obtain ⟨a, b⟩ := p
  obtain ⟨a', b'⟩ := q
  show (PyData.eqv (toPy (.str a)) (toPy (.str a')) && (PyData.eqv (toPy (.str b)) (toPy (.str b')) && true)) = _
  rw [str_eqv, str_eqv, Bool.eq_iff_iff]
  simp only [Bool.and_eq_true, decide_eq_true_eq, Prod.mk.injEq, and_true]
theorem tup_cons (a b : D) (l m : List D) : PyData.eqv (toPy (.tup (a :: l))) (toPy (.tup (b :: m))) = (PyData.eqv (toPy a) (toPy b) && PyData.eqv (toPy (.tup l)) (toPy (.tup m))) := rfl
theorem st_eqv (p q : Stp) : PyData.eqv (toPy (stD p)) (toPy (stD q)) = decide (p = q) := by
  have n1 : ¬ (("put" : Str) = "take") := by decide +kernel
  have n2 : ¬ (("put" : Str) = "join") := by decide +kernel
  have n3 : ¬ (("put" : Str) = "drop") := by decide +kernel
  have n4 : ¬ (("take" : Str) = "join") := by decide +kernel
  have n5 : ¬ (("take" : Str) = "drop") := by decide +kernel
  have n6 : ¬ (("join" : Str) = "drop") := by decide +kernel
  have n1' : ¬ (("take" : Str) = "put") := fun z => n1 z.symm
  have n2' : ¬ (("join" : Str) = "put") := fun z => n2 z.symm
  have n3' : ¬ (("drop" : Str) = "put") := fun z => n3 z.symm
  have n4' : ¬ (("join" : Str) = "take") := fun z => n4 z.symm
  have n5' : ¬ (("drop" : Str) = "take") := fun z => n5 z.symm
  have n6' : ¬ (("drop" : Str) = "join") := fun z => n6 z.symm
  have e0 : PyData.eqv (toPy (.tup [])) (toPy (.tup [])) = true := rfl
  cases p <;> cases q <;> rw [Bool.eq_iff_iff] <;> simp only [stD, tup_cons, str_eqv, strs_eqv, e0, n1, n2, n3, n4, n5, n6, n1', n2', n3', n4', n5', n6', Bool.and_eq_true, decide_eq_true_eq, and_true, true_and, false_and, Stp.put.injEq, Stp.take.injEq, Stp.join.injEq, Stp.drop.injEq, reduceCtorEq]
theorem wa_eqv (p q : Wa) : PyData.eqv (toPy (waD p)) (toPy (waD q)) = decide (p = q) := by
  obtain ⟨a, b, c, d, e, f⟩ := p
  obtain ⟨a', b', c', d', e', f'⟩ := q
  show (PyData.eqv (toPy (.str a)) (toPy (.str a')) && (PyData.eqv (toPy (edD b)) (toPy (edD b')) && (PyData.eqv (toPy (.tup (c.map ndD))) (toPy (.tup (c'.map ndD))) && (PyData.eqvAll (toPys (d.map exD)) (toPys (d'.map exD)) && (PyData.eqvAll (toPys (e.map flD)) (toPys (e'.map flD)) && (PyData.eqvAll (toPys (f.map stD)) (toPys (f'.map stD)) && true)))))) = _
  rw [str_eqv, ed_eqv, nds_eqv, list_eqv ex_eqv, list_eqv fl_eqv, list_eqv st_eqv, Bool.eq_iff_iff]
  simp only [Bool.and_eq_true, decide_eq_true_eq, Wa.mk.injEq, and_true]
theorem en_eqv (x y : En) : PyData.eqv (toPy (enD x)) (toPy (enD y)) = decide (x = y) := by
  have n1 : ¬ (("put" : Str) = "warn") := by decide +kernel
  have n1' : ¬ (("warn" : Str) = "put") := fun z => n1 z.symm
  match x, y with
  | .put p, .put q =>
    show (PyData.eqv (toPy (.str "put")) (toPy (.str "put")) && (PyData.eqv (toPy (waD p)) (toPy (waD q)) && true)) = _
    rw [str_eqv, wa_eqv, Bool.eq_iff_iff]
    simp only [Bool.and_eq_true, decide_eq_true_eq, and_true, true_and, En.put.injEq]
  | .warn n r t, .warn n' r' t' =>
    show (PyData.eqv (toPy (.str "warn")) (toPy (.str "warn")) && (PyData.eqv (toPy (.str n)) (toPy (.str n')) && (PyData.eqv (toPy (rgD r)) (toPy (rgD r')) && (PyData.eqv (toPy (.str t)) (toPy (.str t')) && true)))) = _
    rw [str_eqv, str_eqv, rg_eqv, str_eqv, Bool.eq_iff_iff]
    simp only [Bool.and_eq_true, decide_eq_true_eq, and_true, true_and, En.warn.injEq]
  | .put p, .warn n r t =>
    rw [show enD (.put p) = .tup (.str "put" :: [waD p]) from rfl, show enD (.warn n r t) = .tup (.str "warn" :: [.str n, rgD r, .str t]) from rfl, tup_cons, str_eqv, decide_eq_false n1]
    rfl
  | .warn n r t, .put q =>
    rw [show enD (.put q) = .tup (.str "put" :: [waD q]) from rfl, show enD (.warn n r t) = .tup (.str "warn" :: [.str n, rgD r, .str t]) from rfl, tup_cons, str_eqv, decide_eq_false n1']
    rfl
theorem ens_eqv (l m : List En) : PyData.eqv (toPy (.lst (l.map enD))) (toPy (.lst (m.map enD))) = decide (l = m) := list_eqv en_eqv l m
theorem sok_warn : PyData.strOk "warn" = true := by decide +kernel
theorem en_plain {x : En} (h : EnOk x) : plainD (enD x) = true := by
  cases x with
  | put q =>
    show (PyData.strOk "put" && (plainD (waD q) && true)) = true
    rw [sok_put, wa_plain h]
    rfl
  | warn n r t =>
    show (PyData.strOk "warn" && (PyData.strOk n && (plainD (rgD r) && (PyData.strOk t && true)))) = true
    rw [sok_warn, h.1.sok, rg_plain, h.2.2.sok]
    rfl
theorem en_dep (x : En) : depD (enD x) ≤ 11 := by
  cases x with
  | put q =>
    have := wa_dep q
    show max 0 (max (depD (waD q)) 0) + 1 ≤ 11
    omega
  | warn n r t =>
    have := rg_dep r
    show max 0 (max 0 (max (depD (rgD r)) (max 0 0))) + 1 ≤ 11
    omega
theorem en_ok {x : En} (h : EnOk x) : okD (enD x) = true := okD_of (en_plain h) (Nat.le_trans (en_dep x) (by decide))
theorem ens_ok {l : List En} (h : ∀ x ∈ l, EnOk x) : okD (.lst (l.map enD)) = true := okD_of (plain_map fun x hx => en_plain (h x hx)) (Nat.le_trans (Nat.succ_le_succ (dep_map (k := 11) fun x _ => en_dep x)) (by decide))
/-- where two lists differ first, counted from one -/
def diffF {α : Type} [DecidableEq α] (xs ys : List α) : Option Nat := ((xs.zip ys).findIdx? fun p => decide (p.1 ≠ p.2)).map (· + 1)
theorem diff_at {α : Type} [DecidableEq α] {xs ys : List α} {i : Nat} {x y : α} (h : ∀ j, j < i → xs[j]? = ys[j]?) (hx : xs[i]? = some x) (hy : ys[i]? = some y) (n : x ≠ y) : diffF xs ys = some (i + 1) := by
  unfold diffF
  have hz : (xs.zip ys)[i]? = some (x, y) := by rw [List.getElem?_zip_eq_some]; exact ⟨hx, hy⟩
  have : (xs.zip ys).findIdx? (fun p => decide (p.1 ≠ p.2)) = some i := by
    rw [List.findIdx?_eq_some_iff_getElem]
    obtain ⟨hl, e⟩ := List.getElem?_eq_some_iff.mp hz
    refine ⟨hl, by rw [e]; simpa using n, fun j hj => ?_⟩
    have hjl : j < (xs.zip ys).length := by omega
    have hq : (xs.zip ys)[j]? = some ((xs.zip ys)[j]) := List.getElem?_eq_getElem hjl
    generalize (xs.zip ys)[j] = q at hq ⊢
    obtain ⟨a, b⟩ := q
    rw [List.getElem?_zip_eq_some] at hq
    have := h j hj
    rw [hq.1, hq.2] at this
    have e2 : a = b := Option.some.inj this
    simp [e2]
  rw [this]
  rfl
theorem diff_none {α : Type} [DecidableEq α] {xs ys : List α} (h : ∀ j, j < min xs.length ys.length → xs[j]? = ys[j]?) : diffF xs ys = none := by
  unfold diffF
  have : (xs.zip ys).findIdx? (fun p => decide (p.1 ≠ p.2)) = none := by
    rw [List.findIdx?_eq_none_iff]
    rintro ⟨a, b⟩ hm
    obtain ⟨j, hl, e⟩ := List.mem_iff_getElem.mp hm
    have hq : (xs.zip ys)[j]? = some (a, b) := by rw [List.getElem?_eq_getElem hl, e]
    rw [List.length_zip] at hl
    rw [List.getElem?_zip_eq_some] at hq
    have := h j hl
    rw [hq.1, hq.2] at this
    have e2 : a = b := Option.some.inj this
    simp [e2]
  rw [this]
  rfl
theorem part_diff (xs ys : List Int) : partF xs ys = diffF xs ys := rfl
def cFirst : Ct := fun ds S Φ Ψ => ∃ d d2, ∃ xs ys : List En, ds = [d, d2] ∧ LstD S d (xs.map enD) ∧ LstD S d2 (ys.map enD) ∧ (∀ x ∈ xs, EnOk x) ∧ (∀ x ∈ ys, EnOk x) ∧ xs.length ≤ 60 ∧ ys.length ≤ 60 ∧ Φ (optD (diffF xs ys)) S
/-- the two chains tell the same beginnings apart -/
def ApartAt (xs ys : List En) (k : Nat) : Prop := decide ((chainF xs)[k]? = (chainF ys)[k]?) = decide (xs.take (k + 1) = ys.take (k + 1))
def cApart : Ct := fun ds S Φ Ψ => ∃ d d2, ∃ xs ys : List En, ds = [d, d2] ∧ LstD S d (xs.map enD) ∧ LstD S d2 (ys.map enD) ∧ (∀ x ∈ xs, EnOk x) ∧ (∀ x ∈ ys, EnOk x) ∧ xs.length ≤ 60 ∧ ys.length ≤ 60 ∧
  ∀ S' (b : Bool), Keep S S' → (b = true → ∀ k, k < min xs.length ys.length → ApartAt xs ys k) → Φ (.bl b) S'
theorem r2_neB {g : Gd} {S : List Cell} {Φ : D → List Cell → Prop} {i j : Bool} (h : Φ (.bl (!decide (i = j))) S) : R2s g rNe (.bl i) (.bl j) S Φ := fun ρ M H vx vy Q ok rx ry kv => by
  rw [rp_bl rx, rp_bl ry]
  refine ⟨rfl, ?_⟩
  have e : decide (V.bl i = V.bl j) = decide (i = j) := by simp
  rw [e]
  exact kv _ S _ ρ M H h .refl ok (.bl _)
section
variable {P : Program} {w : World} {K : PySem.W.Frag} {mg : Str → Option Value} {base : Heap} {f : Addr} {fd : FuncData} {C : Addr}
abbrev nFirst : List Str := ["one", "other", "k"]
theorem scFirst : FnScope nFirst ["one", "other"] (defScope s__law_first_unlike) := ⟨rfl, rfl, rfl, by decide +kernel, rfl, by decide +kernel, by decide +kernel⟩
theorem min_if (a b : Nat) : (if ((b : Nat) : Int) < ((a : Nat) : Int) then ((b : Nat) : Int) else ((a : Nat) : Int)) = ((min a b : Nat) : Int) := by split <;> omega
theorem ok_first (F : FnP K "_law_first_unlike" s__law_first_unlike f fd) (hm : mg "_law_first_unlike" = some (.ref f)) (gR : mg "range" = none) (gM : mg "min" = none) (gL : mg "len" = none) : Has P w K mg base 1 "_law_first_unlike" ["one", "other"] cFirst := by
  refine fnH_of nFirst F hm cFirst (fun _ _ _ _ _ _ us hl => match us, hl with | [_, _], _ => rfl) scFirst (fun ds S Φ Ψ h => by obtain ⟨_, _, _, _, rfl, _⟩ := h; rfl) ?_
  intro cdv A outer s H E hr ds S Φ Ψ ⟨d, d2, xs, ys, ed, hd, hd2, hx, hy, zx, zy, k⟩
  subst ed
  have nd := scFirst.nd
  have hu : A.units + 3 + 80 < cLine := hu80 hr
  refine wb_cons (ws_forI (passes_of rfl) rfl (wi_range rfl gR (we_min2 rfl rfl gM (we_len rfl gL (we_name 0 rfl ⟨_, lst_seq hd, we_len rfl gL (we_name 1 rfl ⟨_, lst_seq hd2, _, _, rfl, rfl, min xs.length ys.length, ?_, by omega, fun i Γ' S' => S' = S ∧ (∃ a, Γ' = [some d, some d2, a]) ∧ ∀ j, j < i → xs[j]? = ys[j]?, ?_, fun _ _ _ _ _ => trivial, ?_, ?_⟩)⟩)))))
  · rw [List.length_map, List.length_map, min_if]
  · exact ⟨rfl, ⟨_, rfl⟩, fun j hj => absurd hj (by omega)⟩
  · rintro i z Γ' S' hz2 ⟨rfl, ⟨a, rfl⟩, hj⟩
    obtain ⟨rfl, hi⟩ := rngD_inv hz2
    obtain ⟨x, hxi⟩ := get_lt (l := xs) (i := i) (by omega)
    obtain ⟨y, hyi⟩ := get_lt (l := ys) (i := i) (by omega)
    refine wg_name 2 ?_ nd
    refine wb_cons (ws_if (wt_cmp (op_neD (by show A.units + 3 + 64 < cLine; omega)) rfl (we_ix ix_list (we_name 0 rfl (we_name 2 rfl (r2_ixL (d := enD x) hd (atI_nat (by rw [List.getElem?_map, hxi]; rfl)) ?_))))))
    refine we_ix ix_list (we_name 1 rfl (we_name 2 rfl (r2_ixL (d := enD y) hd2 (atI_nat (by rw [List.getElem?_map, hyi]; rfl)) ?_)))
    have nx : NowD S' (enD x) (enD x) := by cases x <;> rfl
    have ny : NowD S' (enD y) (enD y) := by cases y <;> rfl
    refine r2_neD nx ny (en_ok (hx x (List.mem_of_getElem? hxi))) (en_ok (hy y (List.mem_of_getElem? hyi))) (en_eqv x y) ⟨_, rfl, ifD ?_⟩
    by_cases e : x = y
    · refine .inr ⟨by simp [e], wb_nil (wb_nil ⟨rfl, ⟨_, rfl⟩, fun j hj2 => ?_⟩)⟩
      rcases Nat.lt_succ_iff_lt_or_eq.mp hj2 with z | z
      · exact hj j z
      · rw [z, hxi, hyi, e]
    · refine .inl ⟨by simp [e], wb_cons (ws_ret (we_bin op_add (we_name 2 rfl (we_int (r2_int0 ?_)))))⟩
      have := diff_at hj hxi hyi e
      rw [this] at k
      have e2 : ((i : Nat) : Int) + 1 = ((i + 1 : Nat) : Int) := by omega
      rw [e2]
      exact k
  · rintro Γ' S' ⟨rfl, _, hj⟩
    rw [rngD_len] at hj
    refine wb_cons (ws_ret (we_non ?_))
    rw [diff_none hj] at k
    exact k
abbrev nLawCh : List Str := ["some", "found", "entry"]
theorem scLawCh : FnScope nLawCh ["some"] (defScope s__law_chain) := ⟨rfl, rfl, rfl, by decide +kernel, rfl, by decide +kernel, by decide +kernel⟩
theorem lastC_last {l : List Int} {i : Int} : lastC (l ++ [i]) = i := last_snoc l i
theorem ok_lawCh (F : FnP K "_law_chain" s__law_chain f fd) (hm : mg "_law_chain" = some (.ref f)) (gStr : mg "str" = none) (hM : Has P w K mg base 1 "mark" ["text"] cMark) (hS : Has P w K mg base 6 "show_entry" ["entry"] cShowEn) : Has P w K mg base 7 "_law_chain" ["some"] cChain := by
  refine fnH_of nLawCh F hm cChain (fun _ _ _ _ _ _ us hl => match us, hl with | [_], _ => rfl) scLawCh (fun ds S Φ Ψ h => by obtain ⟨_, _, rfl, _⟩ := h; rfl) ?_
  intro cdv A outer s H E hr ds S Φ Ψ ⟨d, xs, ed, hd, hx, hz, k⟩
  subst ed
  have nd := scLawCh.nd
  refine wb_cons (ws_set 1 nd (we_lstC (wa_nil ⟨by simp, ?_⟩)))
  refine wb_cons (ws_forI (passes_of rfl) rfl (wi_list (we_name 0 rfl ⟨xs.map enD, lst_keep hd (Keep.refl.push), fun i Γ' S' => (∃ a, Γ' = [some d, some (.ptr S.length), a]) ∧ Keep S S' ∧ S'[S.length]? = some (.lst ((chainF (xs.take i)).map D.int)), ?_, ?_, ?_, ?_⟩)))
  · exact ⟨⟨_, rfl⟩, Keep.refl.push, get_new⟩
  · rintro i Γ' S' _ ⟨_, kp, _⟩
    exact lst_keep hd kp
  · rintro i y Γ' S' hy ⟨⟨a, rfl⟩, kp, hc⟩
    rw [List.getElem?_map, Option.map_eq_some_iff] at hy
    obtain ⟨x, hxi, rfl⟩ := hy
    have ok := hx x (List.mem_of_getElem? hxi)
    have hl := en_len ok
    obtain ⟨b1, b2⟩ := last_range (xs.take i)
    have hs := strI_len b1 b2
    have e1 : (" " : Str).length = 1 := rfl
    refine wg_name 2 ?_ nd
    refine wb_cons (ws_expr (we_append (we_name 1 rfl ⟨S.length, rfl, ⟨_, hc⟩, ?_⟩)))
    refine we_callH hM (hr.mono (by decide)) (wa_cons (we_bin op_add_str (we_bin op_add_str (we_strI rfl gStr ?_))))
    refine we_ix ix_list (we_orL (we_name 1 rfl ⟨_, hc, ?_⟩))
    have rest : ∀ (m : Int) (S2 : List Cell), Keep S' S2 → m = mrk ((strI (lastC (chainF (xs.take i))) ++ " ") ++ showEn x) → ∃ zs : List D, S2[S.length]? = some (.lst zs) ∧ zs.length ≤ 1000000 ∧ Keep S (S2.set S.length (.lst (zs ++ [.int m]))) ∧ (S2.set S.length (.lst (zs ++ [.int m])))[S.length]? = some (.lst ((chainF (xs.take (i + 1))).map D.int)) := fun m S2 k2 em => by
      have hc2 := k2.get hc
      refine ⟨_, hc2, ?_, (kp.trans k2).set (Nat.le_refl _), ?_⟩
      · rw [List.length_map, chain_len, List.length_take]
        omega
      · rw [take_snoc hxi, chain_snoc, List.map_append, em]
        exact get_set hc2
    rcases List.eq_nil_or_concat (chainF (xs.take i)) with e | ⟨init, lv, e⟩
    · have e5 : lastC (chainF (xs.take i)) = 0 := by rw [e]; rfl
      rw [e5] at rest hs
      refine .inr ⟨by rw [e]; rfl, we_one (we_lst (wa_cons (we_int (wa_nil ⟨by simp, we_negI (we_int ⟨1, rfl, r2_ixL (ds := [.int 0]) (d := .int 0) rfl rfl ⟨0, rfl, by decide, we_str (r2_addS (i := strI 0) (by omega) ?_)⟩⟩)⟩))))⟩
      refine we_callH hS hr (wa_cons (we_name 2 rfl (wa_nil ⟨x, ok, rfl, fun S2 k2 => r2_addS (by rw [str_len_append]; omega) (wa_nil ⟨_, rfl, ?_⟩)⟩)))
      obtain ⟨zs, g1, g2, g3, g4⟩ := rest _ S2 k2 rfl
      exact ⟨zs, g1, g2, wb_nil ⟨⟨_, rfl⟩, g3, g4⟩⟩
    · rw [List.concat_eq_append] at e
      have e5 : lastC (chainF (xs.take i)) = lv := by rw [e]; exact last_snoc _ _
      rw [e5] at rest hs b1 b2
      have hc' : S'[S.length]? = some (.lst (init.map D.int ++ [.int lv])) := by rw [hc, e, List.map_append]; rfl
      refine .inl ⟨by rw [e]; simp, we_negI (we_int ⟨1, rfl, r2_ixL hc' (atI_last _ _) ⟨lv, rfl, log_int b1 b2, we_str (r2_addS (i := strI lv) (by omega) ?_)⟩⟩)⟩
      refine we_callH hS hr (wa_cons (we_name 2 rfl (wa_nil ⟨x, ok, rfl, fun S2 k2 => r2_addS (by rw [str_len_append]; omega) (wa_nil ⟨_, rfl, ?_⟩)⟩)))
      obtain ⟨zs, g1, g2, g3, g4⟩ := rest _ S2 k2 rfl
      exact ⟨zs, g1, g2, wb_nil ⟨⟨_, rfl⟩, g3, g4⟩⟩
  · rintro Γ' S' ⟨⟨a, rfl⟩, kp, hc⟩
    rw [List.length_map, List.take_length] at hc
    exact wb_cons (ws_ret (we_name 1 rfl (k S' S.length kp (Nat.le_refl _) hc)))
end
end Wy
set_option Elab.async false
set_option linter.all false
set_option maxRecDepth 100000
set_option maxHeartbeats 4000000
namespace Wy
open PySem PySem.Spec PyProof.Rows L2 Ab
/-! ### the law's registries: drawn, forked, held apart -/
def entW : En → Option Wa
  | .put q => some q
  | .warn _ _ _ => none
theorem puts_fm : ∀ xs : List En, putsOf xs = xs.filterMap entW
  | [] => rfl
  | .put q :: xs => by
    show q :: putsOf xs = q :: xs.filterMap entW
    rw [puts_fm xs]
  | .warn _ _ _ :: xs => by
    show putsOf xs = xs.filterMap entW
    exact puts_fm xs
theorem puts_app (xs ys : List En) : putsOf (xs ++ ys) = putsOf xs ++ putsOf ys := by
  rw [puts_fm, List.filterMap_append, ← puts_fm, ← puts_fm]
theorem puts_put (q : Wa) (xs : List En) : putsOf (.put q :: xs) = q :: putsOf xs := rfl
/-- all puts have another first number -/
def DistP (xs : List En) : Prop := ((putsOf xs).map fun q => q.ed.a).Nodup
theorem fresh_of {xs : List En} (h : DistP xs) : AllFresh xs := fun i q hi p hp ⟨_, e2⟩ => by
  have es := take_split hi
  unfold DistP at h
  rw [es, puts_app, puts_put, List.map_append, List.map_cons, List.nodup_append] at h
  exact h.2.2 p.ed.a (List.mem_map.mpr ⟨p, hp, rfl⟩) q.ed.a List.mem_cons_self (by rw [e2])
structure EntsOk (xs : List En) : Prop where
  ok : ∀ x ∈ xs, EnOk x
  at_ : ∀ (i : Nat) (q : Wa), xs[i]? = some (.put q) → q.ed.a = i
theorem dist_gen : ∀ (xs : List En) (k : Nat), (∀ (i : Nat) (q : Wa), xs[i]? = some (.put q) → q.ed.a = k + i) → (∀ p ∈ putsOf xs, k ≤ p.ed.a) ∧ DistP xs
  | [], k, _ => ⟨fun p hp => (by cases hp), List.nodup_nil⟩
  | x :: xs, k, h => by
    obtain ⟨h1, h2⟩ := dist_gen xs (k + 1) fun i q hi => by
      have := h (i + 1) q (by simpa using hi)
      omega
    cases x with
    | warn n r t => exact ⟨fun p hp => by have := h1 p hp; omega, h2⟩
    | put q =>
      have hq := h 0 q rfl
      refine ⟨fun p hp => ?_, ?_⟩
      · rcases List.mem_cons.mp hp with z | z
        · rw [z]; omega
        · have := h1 p z; omega
      · show (q.ed.a :: (putsOf xs).map fun q => q.ed.a).Nodup
        refine List.nodup_cons.mpr ⟨fun z => ?_, h2⟩
        obtain ⟨p, hp, e⟩ := List.mem_map.mp z
        have := h1 p hp
        omega
theorem dist_of {xs : List En} (h : EntsOk xs) : DistP xs := (dist_gen xs 0 fun i q hi => by rw [h.at_ i q hi, Nat.zero_add]).2
theorem dist_sub {xs ys : List En} (h : DistP xs) (s : ys.Sublist xs) : DistP ys := by
  unfold DistP at h ⊢
  rw [puts_fm] at h ⊢
  exact h.sublist ((s.filterMap entW).map _)
theorem dist_perm {xs ys : List En} (h : DistP xs) (s : ys.Perm xs) : DistP ys := by
  unfold DistP at h ⊢
  rw [puts_fm] at h ⊢
  exact (((s.filterMap entW).map _).nodup_iff).mpr h
/-- what the other registry may be -/
structure ForkOk (xs ys : List En) : Prop where
  ok : ∀ y ∈ ys, EnOk y
  few : ys.length ≤ xs.length + 1
  dist : DistP ys
def forkW : En := .warn "a" anyR "fork"
theorem name_a : NameOk "a" := ⟨by decide +kernel, by decide +kernel, by decide +kernel⟩
theorem forkW_ok : EnOk forkW := ⟨name_a, any_ok, ⟨by decide +kernel, by decide +kernel⟩⟩
theorem fork0 {xs : List En} (h : EntsOk xs) (k : Nat) : ForkOk xs (xs.take k) := ⟨fun y hy => h.ok y (List.mem_of_mem_take hy), by rw [List.length_take]; omega, dist_sub (dist_of h) (List.take_sublist _ _)⟩
theorem fork1 {xs : List En} (h : EntsOk xs) (k : Nat) : ForkOk xs (xs.take k ++ xs.drop (k + 1)) := by
  have sub : (xs.take k ++ xs.drop (k + 1)).Sublist xs := by
    have := List.Sublist.append (List.Sublist.refl (xs.take k)) (show (xs.drop (k + 1)).Sublist (xs.drop k) from List.drop_sublist_drop_left xs (by omega))
    rw [List.take_append_drop] at this
    exact this
  exact ⟨fun y hy => h.ok y (sub.subset hy), by have := sub.length_le; omega, dist_sub (dist_of h) sub⟩
theorem fork2 {xs : List En} (h : EntsOk xs) (k : Nat) : ForkOk xs (xs.take k ++ [forkW] ++ xs.drop k) := by
  refine ⟨fun y hy => ?_, ?_, ?_⟩
  · rcases List.mem_append.mp hy with z | z
    · rcases List.mem_append.mp z with z | z
      · exact h.ok y (List.mem_of_mem_take z)
      · rw [List.mem_singleton.mp z]; exact forkW_ok
    · exact h.ok y (List.mem_of_mem_drop z)
  · simp only [List.length_append, List.length_take, List.length_drop, List.length_singleton]
    omega
  · have e : putsOf (xs.take k ++ [forkW] ++ xs.drop k) = putsOf xs := by
      rw [puts_app, puts_app]
      have e2 : putsOf [forkW] = [] := rfl
      rw [e2, List.append_nil, ← puts_app, List.take_append_drop]
    have := dist_of h
    unfold DistP at this ⊢
    rw [e]
    exact this
theorem fork3 {xs : List En} (h : EntsOk xs) (k : Nat) : ForkOk xs (xs.take k ++ (xs.drop k).reverse) := by
  have pm : (xs.take k ++ (xs.drop k).reverse).Perm xs := by
    have := List.Perm.append_left (xs.take k) (List.reverse_perm (xs.drop k))
    rw [List.take_append_drop] at this
    exact this
  exact ⟨fun y hy => h.ok y (pm.mem_iff.mp hy), by rw [pm.length_eq]; omega, dist_perm (dist_of h) pm⟩
def cLawEnts : Ct := fun ds S Φ Ψ => ∃ (l n : Nat) (ns : List Str) (m : Nat), ds = [.ptr l, .lst (ns.map D.str), .int (m : Nat)] ∧ ns ≠ [] ∧ ns.length ≤ 10 ∧ (∀ s ∈ ns, NameOk s) ∧ m ≤ 9 ∧ DeckAt S l n ∧ n ≤ 400000 ∧
  ∀ (xs : List En) S' c, xs.length = m → EntsOk xs → But l l S S' → DeckAt S' l (n + 5000) → S.length ≤ c → S'[c]? = some (.lst (xs.map enD)) → Φ (.ptr c) S'
def cLawFork : Ct := fun ds S Φ Ψ => ∃ (l n : Nat) (d x3 : D) (xs : List En), ds = [.ptr l, d, x3] ∧ LstD S d (xs.map enD) ∧ (∀ S', But l l S S' → LstD S' d (xs.map enD)) ∧ EntsOk xs ∧ xs.length ≤ 9 ∧ DeckAt S l n ∧ n ≤ 900000 ∧
  ∀ (ys : List En) S', ForkOk xs ys → But l l S S' → DeckAt S' l (n + 2) → Φ (.lst (ys.map enD)) S'
theorem wnum_ok {r : Nat} (h : r ≤ 99) : TextOk ("w" ++ numS r) := by
  have h2 := numS_len h
  have e1 : ("w" : Str).length = 1 := rfl
  refine ⟨by rw [str_len_append, e1]; omega, fun c hc => ?_⟩
  rw [cps_app] at hc
  rcases List.mem_append.mp hc with z | z
  · have : ∀ c ∈ ("w" : Str).cps.toList, okCh c := by decide +kernel
    exact this c z
  · exact num_ok h c z
section
variable {P : Program} {w : World} {K : PySem.W.Frag} {mg : Str → Option Value} {base : Heap} {f : Addr} {fd : FuncData} {C : Addr}
abbrev nApart : List Str := ["rows", "others", "one", "other", "k"]
theorem scApart : FnScope nApart ["rows", "others"] (defScope s__law_apart) := ⟨rfl, rfl, rfl, by decide +kernel, rfl, by decide +kernel, by decide +kernel⟩
theorem ok_apart (F : FnP K "_law_apart" s__law_apart f fd) (hm : mg "_law_apart" = some (.ref f)) (gR : mg "range" = none) (gM : mg "min" = none) (gL : mg "len" = none) (hC : Has P w K mg base 7 "_law_chain" ["some"] cChain) : Has P w K mg base 8 "_law_apart" ["rows", "others"] cApart := by
  refine fnH_of nApart F hm cApart (fun _ _ _ _ _ _ us hl => match us, hl with | [_, _], _ => rfl) scApart (fun ds S Φ Ψ h => by obtain ⟨_, _, _, _, rfl, _⟩ := h; rfl) ?_
  intro cdv A outer s H E hr ds S Φ Ψ ⟨d, d2, xs, ys, ed, hd, hd2, hx, hy, zx, zy, k⟩
  subst ed
  have nd := scApart.nd
  have hu : A.units + 3 + 80 < cLine := hu80 hr
  refine wb_cons (ws_par 2 3 rfl nd (we_callH hC hr (wa_cons (we_name 0 rfl (wa_nil ⟨d, xs, rfl, hd, hx, zx, fun S1 c1 k1 h1 g1 => ?_⟩)))))
  refine we_callH hC hr (wa_cons (we_name 1 rfl (wa_nil ⟨d2, ys, rfl, lst_keep hd2 k1, hy, zy, fun S2 c2 k2 h2 g2 => ?_⟩)))
  have k12 := k1.trans k2
  have g12 := k2.get g1
  have hd' := lst_keep hd k12
  have hd2' := lst_keep hd2 k12
  refine wb_cons (ws_forI (passes_of rfl) rfl (wi_range rfl gR (we_min2 rfl rfl gM (we_len rfl gL (we_name 0 rfl ⟨_, lst_seq hd', we_len rfl gL (we_name 1 rfl ⟨_, lst_seq hd2', _, _, rfl, rfl, min xs.length ys.length, ?_, by omega, fun i Γ' S' => S' = S2 ∧ (∃ a, Γ' = [some d, some d2, some (.ptr c1), some (.ptr c2), a]) ∧ ∀ j, j < i → ApartAt xs ys j, ?_, fun _ _ _ _ _ => trivial, ?_, ?_⟩)⟩)))))
  · rw [List.length_map, List.length_map, min_if]
  · exact ⟨rfl, ⟨_, rfl⟩, fun j hj => absurd hj (by omega)⟩
  · rintro i z Γ' S' hz2 ⟨rfl, ⟨a, rfl⟩, hj⟩
    obtain ⟨rfl, hi⟩ := rngD_inv hz2
    have lx := chain_len xs
    have ly := chain_len ys
    obtain ⟨a1, ha1⟩ := get_lt (l := chainF xs) (i := i) (by omega)
    obtain ⟨b1, hb1⟩ := get_lt (l := chainF ys) (i := i) (by omega)
    refine wg_name 4 ?_ nd
    refine wb_cons (ws_if (wt_cmp op_ne rfl (we_cmp op_eq rfl (we_ix ix_list (we_name 2 rfl (we_name 4 rfl (r2_ixL (x := .ptr c1) (d := .int a1) g12 (atI_nat (by rw [List.getElem?_map, ha1]; rfl)) ?_)))))))
    refine we_ix ix_list (we_name 3 rfl (we_name 4 rfl (r2_ixL (x := .ptr c2) (d := .int b1) g2 (atI_nat (by rw [List.getElem?_map, hb1]; rfl)) (r2_eqI ?_))))
    refine we_cmp (op_eqD (by show A.units + 3 + 64 < cLine; omega)) rfl (we_slice sl_list (we_name 0 rfl (we_bin op_add (we_name 4 rfl (we_int (r2_int0 ⟨_, rfl, rs_lst hd' ?_⟩))))))
    have e1 : ((i : Nat) : Int) + 1 = ((i + 1 : Nat) : Int) := by omega
    rw [e1, cut_to, ← List.map_take]
    refine we_slice sl_list (we_name 1 rfl (we_bin op_add (we_name 4 rfl (we_int (r2_int0 ⟨_, rfl, rs_lst hd2' ?_⟩)))))
    rw [e1, cut_to, ← List.map_take]
    refine r2_eqD (d := .lst ((xs.take (i + 1)).map enD)) (e := .lst ((ys.take (i + 1)).map enD)) rfl rfl (ens_ok fun x hx2 => hx x (List.mem_of_mem_take hx2)) (ens_ok fun x hx2 => hy x (List.mem_of_mem_take hx2)) (ens_eqv _ _) (r2_neB ⟨_, rfl, ifD ?_⟩)
    by_cases e : decide (a1 = b1) = decide (xs.take (i + 1) = ys.take (i + 1))
    · refine .inr ⟨by rw [decide_eq_true e]; rfl, wb_nil (wb_nil ⟨rfl, ⟨_, rfl⟩, fun j hj2 => ?_⟩)⟩
      rcases Nat.lt_succ_iff_lt_or_eq.mp hj2 with z | z
      · exact hj j z
      · unfold ApartAt
        rw [z, ha1, hb1, ← e]
        simp
    · exact .inl ⟨by rw [decide_eq_false e]; rfl, wb_cons (ws_ret (we_bl (k S' false k12 fun z => by cases z)))⟩
  · rintro Γ' S' ⟨rfl, _, hj⟩
    rw [rngD_len] at hj
    exact wb_cons (ws_ret (we_bl (k S' true k12 fun _ => hj)))
abbrev nEnts : List Str := ["deck", "names", "many", "found", "k"]
theorem scEnts : FnScope nEnts ["deck", "names", "many"] (defScope s__law_entries) := ⟨rfl, rfl, rfl, by decide +kernel, rfl, by decide +kernel, by decide +kernel⟩
theorem ok_lawEnts (F : FnP K "_law_entries" s__law_entries f fd) (hm : mg "_law_entries" = some (.ref f)) (gR : mg "range" = none) (gStr : mg "str" = none) (hP : Has P w K mg base 1 "_law_pick" ["deck", "many"] cPick) (hO : Has P w K mg base 2 "_law_one" ["deck", "some"] cOne) (hS : Has P w K mg base 3 "_law_span" ["deck"] cLawSpan) (hW : Has P w K mg base 6 "_law_ware" ["deck", "name", "edition", "names"] cLawWare) :
    Has P w K mg base 7 "_law_entries" ["deck", "names", "many"] cLawEnts := by
  refine fnH_of nEnts F hm cLawEnts (fun _ _ _ _ _ _ us hl => match us, hl with | [_, _, _], _ => rfl) scEnts (fun ds S Φ Ψ h => by obtain ⟨_, _, _, _, rfl, _⟩ := h; rfl) ?_
  intro cdv A outer s H E hr ds S Φ Ψ ⟨l, n, ns, m, ed, hne, hz, hns, hm9, dk, hn, k⟩
  subst ed
  have nd := scEnts.nd
  have hl := dk.lt
  have hr1 := hr.mono (show 1 ≤ 6 by decide)
  have hnm0 : ns.map D.str ≠ [] := fun z => hne (List.map_eq_nil_iff.mp z)
  have hnz : (ns.map D.str).length ≤ 1000 := by rw [List.length_map]; omega
  refine wb_cons (ws_set 3 nd (we_lstC (wa_nil ⟨by simp, ?_⟩)))
  refine wb_cons (ws_forI (passes_of rfl) rfl (wi_range rfl gR (we_name 2 rfl ⟨m, rfl, by omega, fun i Γ' S' => (∃ a, Γ' = [some (.ptr l), some (.lst (ns.map D.str)), some (.int (m : Nat)), some (.ptr S.length), a]) ∧ But l l S S' ∧ DeckAt S' l (n + i * 500) ∧ ∃ xs : List En, xs.length = i ∧ EntsOk xs ∧ S'[S.length]? = some (.lst (xs.map enD)), ?_, fun _ _ _ _ _ => trivial, ?_, ?_⟩)))
  · exact ⟨⟨_, rfl⟩, but_push, (dk.keep Keep.refl.push).mono (by omega), [], rfl, ⟨fun x hx => (by cases hx), fun i q hi => by simp at hi⟩, get_new⟩
  · rintro i z Γ' S' hz2 ⟨⟨a, rfl⟩, bk, dk2, xs, hxl, hxo, gx⟩
    obtain ⟨rfl, hi⟩ := rngD_inv hz2
    refine wg_name 4 ?_ nd
    have step : ∀ (x : En) (S3 : List Cell), EnOk x → (∀ q, x = .put q → q.ed.a = i) → But l l S' S3 → DeckAt S3 l (n + i * 500 + 500) → ∃ zs : List D, S3[S.length]? = some (.lst zs) ∧ zs.length ≤ 1000000 ∧ But l l S (S3.set S.length (.lst (zs ++ [enD x]))) ∧ DeckAt (S3.set S.length (.lst (zs ++ [enD x]))) l (n + (i + 1) * 500) ∧ ∃ xs : List En, xs.length = i + 1 ∧ EntsOk xs ∧ (S3.set S.length (.lst (zs ++ [enD x])))[S.length]? = some (.lst (xs.map enD)) := fun x S3 hx ha b3 d3 => by
      have gx3 := b3.get gx (by omega) (by omega)
      refine ⟨_, gx3, by rw [List.length_map]; omega, But.step (bk.trans b3) But.set1 (Nat.le_refl _), (d3.but (But.set1 (a := S.length) (b := S.length)) (by omega) (by omega)).mono (by omega), xs ++ [x], by rw [List.length_append, hxl]; rfl, ⟨fun y hy => ?_, fun j q hj => ?_⟩, ?_⟩
      · rcases List.mem_append.mp hy with z | z
        · exact hxo.ok y z
        · rw [List.mem_singleton.mp z]; exact hx
      · by_cases hjl : j < xs.length
        · rw [List.getElem?_append_left hjl] at hj
          exact hxo.at_ j q hj
        · have hj2 := lt_of_some hj
          rw [List.length_append, List.length_singleton] at hj2
          have ej : j = xs.length := by omega
          rw [ej, List.getElem?_append_right (Nat.le_refl _), Nat.sub_self] at hj
          cases hj
          rw [ha q rfl]
          omega
      · rw [List.map_append]
        exact get_set gx3
    refine wb_cons (ws_if (wt_cmp op_eq rfl (we_callH hP hr1 (wa_cons (we_name 0 rfl (wa_cons (we_int (wa_nil ⟨l, 4, n + i * 500, rfl, by decide, by decide, dk2, by omega, fun r S2 hr2 b2 d2 => we_int (r2_eqI ⟨_, rfl, ifD ?_⟩)⟩))))))))
    have gx2 := b2.get gx (by omega) (by omega)
    by_cases h0 : (r : Int) = 0
    · refine .inl ⟨decide_eq_true h0, ?_⟩
      refine wb_cons (ws_expr (we_append (we_name 3 rfl ⟨S.length, rfl, ⟨_, gx2⟩, we_tup (wa_cons (we_str (wa_cons (we_callH hO (hr.mono (by decide)) (wa_cons (we_name 0 rfl (wa_cons (we_name 1 rfl (wa_nil ⟨l, n + i * 500 + 1, .lst (ns.map D.str), ns.map D.str, rfl, rfl, fun _ _ => rfl, hnm0, hnz, d2, by omega, fun r3 d3 S3 hd3 b3 dk3 => ?_⟩)))))))))⟩)))
      rw [List.getElem?_map, Option.map_eq_some_iff] at hd3
      obtain ⟨nm, hnm, rfl⟩ := hd3
      have onm := hns nm (List.mem_of_getElem? hnm)
      refine wa_cons (we_callH hS (hr.mono (by decide)) (wa_cons (we_name 0 rfl (wa_nil ⟨l, n + i * 500 + 1 + 1, rfl, dk3, by omega, fun g S4 hg b4 dk4 => ?_⟩))))
      refine wa_cons (we_bin op_add_str (we_str (we_strI rfl gStr (we_callH hP hr1 (wa_cons (we_name 0 rfl (wa_cons (we_int (wa_nil ⟨l, 3, n + i * 500 + 1 + 1 + 20, rfl, by decide, by decide, dk4, by omega, fun r5 S5 hr5 b5 dk5 => ⟨_, rfl, log_small (by omega), r2_addS (j := numS r5) ?_ (wa_nil ⟨by simp, ?_⟩)⟩⟩)))))))))
      · have := numS_len (n := r5) (by omega)
        have e1 : ("w" : Str).length = 1 := rfl
        omega
      · obtain ⟨zs, q1, q2, q3, q4, q5⟩ := step (.warn nm g ("w" ++ numS r5)) S5 ⟨onm, hg, wnum_ok (by omega)⟩ (fun q z => by cases z) (b2.trans (b3.trans (b4.trans b5))) (dk5.mono (by omega))
        exact ⟨zs, q1, q2, wb_nil (wb_nil ⟨⟨_, rfl⟩, q3, q4, q5⟩)⟩
    · refine .inr ⟨decide_eq_false h0, ?_⟩
      refine wb_cons (ws_expr (we_append (we_name 3 rfl ⟨S.length, rfl, ⟨_, gx2⟩, we_tup (wa_cons (we_str (wa_cons (we_callH hW hr (wa_cons (we_name 0 rfl (wa_cons (we_callH hO (hr.mono (by decide)) (wa_cons (we_name 0 rfl (wa_cons (we_name 1 rfl (wa_nil ⟨l, n + i * 500 + 1, .lst (ns.map D.str), ns.map D.str, rfl, rfl, fun _ _ => rfl, hnm0, hnz, d2, by omega, fun r3 d3 S3 hd3 b3 dk3 => ?_⟩)))))))))))))⟩)))
      rw [List.getElem?_map, Option.map_eq_some_iff] at hd3
      obtain ⟨nm, hnm, rfl⟩ := hd3
      have onm := hns nm (List.mem_of_getElem? hnm)
      refine wa_cons (we_tup (wa_cons (we_name 4 rfl (wa_cons (we_callH hP hr1 (wa_cons (we_name 0 rfl (wa_cons (we_int (wa_nil ⟨l, 3, n + i * 500 + 1 + 1, rfl, by decide, by decide, dk3, by omega, fun r4 S4 hr4 b4 dk4 => wa_cons (we_int (wa_nil ⟨by simp, ?_⟩))⟩))))))))))
      refine wa_cons (we_name 1 rfl (wa_nil ⟨l, n + i * 500 + 1 + 1 + 1, nm, ⟨i, r4, 0⟩, ns, rfl, onm, ⟨by show i ≤ 99; omega, by show r4 ≤ 99; omega, by show 0 ≤ 99; omega⟩, hz, hns, dk4, by omega, fun q S5 hq e1 e2 b5 dk5 => wa_nil ⟨by simp, ?_⟩⟩))
      obtain ⟨zs, q1, q2, q3, q4, q5⟩ := step (.put q) S5 hq (fun p z => by cases z; rw [e2]) (b2.trans (b3.trans (b4.trans b5))) (dk5.mono (by omega))
      exact ⟨zs, q1, q2, wb_nil (wb_nil ⟨⟨_, rfl⟩, q3, q4, q5⟩)⟩
  · rintro Γ' S' ⟨⟨a, rfl⟩, bk, dk2, xs, hxl, hxo, gx⟩
    rw [rngD_len] at hxl dk2
    exact wb_cons (ws_ret (we_name 3 rfl (k xs S' S.length hxl hxo bk (dk2.mono (by omega)) (Nat.le_refl _) gx)))
abbrev nFork : List Str := ["deck", "rows", "names", "spot", "way"]
theorem scFork : FnScope nFork ["deck", "rows", "names"] (defScope s__law_fork) := ⟨rfl, rfl, rfl, by decide +kernel, rfl, by decide +kernel, by decide +kernel⟩
theorem ok_fork (F : FnP K "_law_fork" s__law_fork f fd) (hm : mg "_law_fork" = some (.ref f)) (gL : mg "len" = none) (gA : GD K mg "ANY" anyD) (hP : Has P w K mg base 1 "_law_pick" ["deck", "many"] cPick) : Has P w K mg base 2 "_law_fork" ["deck", "rows", "names"] cLawFork := by
  refine fnH_of nFork F hm cLawFork (fun _ _ _ _ _ _ us hl => match us, hl with | [_, _, _], _ => rfl) scFork (fun ds S Φ Ψ h => by obtain ⟨_, _, _, _, _, rfl, _⟩ := h; rfl) ?_
  intro cdv A outer s H E hr ds S Φ Ψ ⟨l, n, d, x3, xs, ed, hd, hd2, hxo, hz, dk, hn, k⟩
  subst ed
  have nd := scFork.nd
  refine wb_cons (ws_set 3 nd (we_callH hP hr (wa_cons (we_name 0 rfl (wa_cons (we_bin op_add (we_len rfl gL (we_name 1 rfl ⟨_, lst_seq hd, we_int (r2_int0 (wa_nil ⟨l, xs.length + 1, n, ?_, by omega, by omega, dk, by omega, fun sp S1 hs b1 d1 => ?_⟩))⟩))))))))
  · rw [List.length_map, show ((xs.length : Nat) : Int) + 1 = ((xs.length + 1 : Nat) : Int) by omega]
  refine wb_cons (ws_set 4 nd (we_callH hP hr (wa_cons (we_name 0 rfl (wa_cons (we_int (wa_nil ⟨l, 4, n + 1, rfl, by decide, by decide, d1, by omega, fun way S2 hw b2 d2 => ?_⟩)))))))
  have b12 := b1.trans b2
  have hd' := hd2 S2 b12
  have e1 : ((sp : Nat) : Int) + 1 = ((sp + 1 : Nat) : Int) := by omega
  refine wb_cons (ws_if (wt_cmp op_eq rfl (we_name 4 rfl (we_int (r2_eqI ⟨_, rfl, ifD ?_⟩)))))
  by_cases h1 : (way : Int) = 0
  · refine .inl ⟨decide_eq_true h1, wb_cons (ws_ret (we_slice sl_list (we_name 1 rfl (we_name 3 rfl ⟨_, rfl, rs_lst hd' ?_⟩))))⟩
    rw [cut_to, ← List.map_take]
    exact k _ S2 (fork0 hxo sp) b12 d2
  refine .inr ⟨decide_eq_false h1, wb_nil ?_⟩
  refine wb_cons (ws_if (wt_cmp op_eq rfl (we_name 4 rfl (we_int (r2_eqI ⟨_, rfl, ifD ?_⟩)))))
  by_cases h2 : (way : Int) = 1
  · refine .inl ⟨decide_eq_true h2, wb_cons (ws_ret (we_bin op_catL (we_slice sl_list (we_name 1 rfl (we_name 3 rfl ⟨_, rfl, rs_lst hd' ?_⟩)))))⟩
    rw [cut_to, ← List.map_take]
    refine we_slice sl_list (we_name 1 rfl (we_bin op_add (we_name 3 rfl (we_int (r2_int0 ⟨_, rfl, rs_lst hd' ?_⟩)))))
    rw [e1, cut_from, ← List.map_drop]
    refine r2_catL (xs := (xs.take sp).map enD) (ys := (xs.drop (sp + 1)).map enD) rfl rfl (by simp only [List.length_map, List.length_take, List.length_drop]; omega) ?_
    rw [← List.map_append]
    exact k _ S2 (fork1 hxo sp) b12 d2
  refine .inr ⟨decide_eq_false h2, wb_nil ?_⟩
  refine wb_cons (ws_if (wt_cmp op_eq rfl (we_name 4 rfl (we_int (r2_eqI ⟨_, rfl, ifD ?_⟩)))))
  by_cases h3 : (way : Int) = 2
  · refine .inl ⟨decide_eq_true h3, wb_cons (ws_ret (we_bin op_catL (we_bin op_catL (we_slice sl_list (we_name 1 rfl (we_name 3 rfl ⟨_, rfl, rs_lst hd' ?_⟩))))))⟩
    rw [cut_to, ← List.map_take]
    refine we_lst (wa_cons (we_tup (wa_cons (we_str (wa_cons (we_str (wa_cons (we_globD gA (wa_cons (we_str (wa_nil ⟨by simp, wa_nil ⟨by simp, ?_⟩⟩)))))))))))
    refine r2_catL (xs := (xs.take sp).map enD) (ys := [enD forkW]) rfl rfl (by simp only [List.length_map, List.length_take, List.length_singleton]; omega) ?_
    refine we_slice sl_list (we_name 1 rfl (we_name 3 rfl ⟨_, rfl, rs_lst hd' ?_⟩))
    rw [cut_from, ← List.map_drop]
    refine r2_catL (xs := (xs.take sp).map enD ++ [enD forkW]) (ys := (xs.drop sp).map enD) rfl rfl (by simp only [List.length_append, List.length_map, List.length_take, List.length_drop, List.length_singleton]; omega) ?_
    have := k _ S2 (fork2 hxo sp) b12 d2
    rw [List.map_append, List.map_append] at this
    exact this
  refine .inr ⟨decide_eq_false h3, wb_nil ?_⟩
  refine wb_cons (ws_ret (we_bin op_catL (we_slice sl_list (we_name 1 rfl (we_name 3 rfl ⟨_, rfl, rs_lst hd' ?_⟩)))))
  rw [cut_to, ← List.map_take]
  refine we_revL (we_slice sl_list (we_name 1 rfl (we_name 3 rfl ⟨_, rfl, rs_lst hd' ?_⟩)))
  rw [cut_from, ← List.map_drop]
  refine ⟨(xs.drop sp).map enD, rfl, ?_⟩
  rw [← List.map_reverse]
  refine r2_catL (xs := (xs.take sp).map enD) (ys := (xs.drop sp).reverse.map enD) rfl rfl (by simp only [List.length_map, List.length_take, List.length_reverse, List.length_drop]; omega) ?_
  rw [← List.map_append]
  exact k _ S2 (fork3 hxo sp) b12 d2
end
end Wy
set_option Elab.async false
set_option linter.all false
set_option maxRecDepth 100000
set_option maxHeartbeats 4000000
namespace Wy
open PySem PySem.Spec PyProof.Rows L2 Ab
/-! ### the plain law: chains part where entries part -/
theorem diff_cases {α : Type} [DecidableEq α] (xs ys : List α) : (∃ (i : Nat) (x y : α), (∀ j : Nat, j < i → xs[j]? = ys[j]?) ∧ xs[i]? = some x ∧ ys[i]? = some y ∧ x ≠ y) ∨ ∀ j : Nat, j < min xs.length ys.length → xs[j]? = ys[j]? := by
  induction xs generalizing ys with
  | nil => exact .inr fun j hj => by simp at hj
  | cons a xs ih =>
    cases ys with
    | nil => exact .inr fun j hj => by simp at hj
    | cons b ys =>
      by_cases e : a = b
      · subst e
        rcases ih ys with ⟨i, x, y, h1, h2, h3, h4⟩ | h
        · refine .inl ⟨i + 1, x, y, fun j hj => ?_, by simpa using h2, by simpa using h3, h4⟩
          cases j with
          | zero => rfl
          | succ j => simpa using h1 j (by omega)
        · refine .inr fun j hj => ?_
          cases j with
          | zero => rfl
          | succ j => simpa using h j (by simp at hj; omega)
      · exact .inl ⟨0, a, b, fun j hj => absurd hj (by omega), rfl, rfl, e⟩
theorem diff_symm {α : Type} [DecidableEq α] (xs ys : List α) : diffF xs ys = diffF ys xs := by
  rcases diff_cases xs ys with ⟨i, x, y, h1, h2, h3, h4⟩ | h
  · rw [diff_at h1 h2 h3 h4, diff_at (fun j hj => (h1 j hj).symm) h3 h2 (fun e => h4 e.symm)]
  · rw [diff_none h, diff_none fun j hj => (h j (by omega)).symm]
theorem take_eq_of {α : Type} {xs ys : List α} {k : Nat} (h : ∀ j, j < k → xs[j]? = ys[j]?) : xs.take k = ys.take k := by
  apply List.ext_getElem?
  intro j
  by_cases hj : j < k
  · rw [List.getElem?_take_of_lt hj, List.getElem?_take_of_lt hj, h j hj]
  · rw [List.getElem?_eq_none (by rw [List.length_take]; omega), List.getElem?_eq_none (by rw [List.length_take]; omega)]
theorem get_of_take {α : Type} {xs ys : List α} {k j : Nat} (h : xs.take k = ys.take k) (hj : j < k) : xs[j]? = ys[j]? := by
  have := congrArg (fun l : List α => l[j]?) h
  simp only [List.getElem?_take_of_lt hj] at this
  exact this
theorem chain_get (xs : List En) (n j : Nat) (hj : j < n) : (chainF (xs.take n))[j]? = (chainF xs)[j]? := by
  rw [chain_take, List.getElem?_take_of_lt hj]
/-- the two chains part where the entries part -/
theorem chain_diff {xs ys : List En} (ap : ∀ k, k < min xs.length ys.length → ApartAt xs ys k) (n : Nat) : partF (chainF (xs.take n)) (chainF ys) = diffF (xs.take n) ys := by
  rw [part_diff]
  have hl := chain_len (xs.take n)
  have hl2 := chain_len ys
  have hln : (xs.take n).length = min n xs.length := by rw [List.length_take]
  have same : ∀ k, k < min (xs.take n).length ys.length → ((chainF (xs.take n))[k]? = (chainF ys)[k]? ↔ xs.take (k + 1) = ys.take (k + 1)) := fun k hk => by
    have := ap k (by omega)
    unfold ApartAt at this
    rw [chain_get xs n k (by omega)]
    exact decide_eq_decide.mp this
  rcases diff_cases (xs.take n) ys with ⟨i, x, y, h1, h2, h3, h4⟩ | h
  · rw [diff_at h1 h2 h3 h4]
    have hi := lt_of_some h2
    have hi2 := lt_of_some h3
    have h1' : ∀ j, j < i → xs[j]? = ys[j]? := fun j hj => by
      have := h1 j hj
      rw [List.getElem?_take_of_lt (by omega)] at this
      exact this
    have h2' : xs[i]? = some x := by
      rw [List.getElem?_take_of_lt (by omega)] at h2
      exact h2
    obtain ⟨a, ha⟩ := get_lt (l := chainF (xs.take n)) (i := i) (by omega)
    obtain ⟨b, hb⟩ := get_lt (l := chainF ys) (i := i) (by omega)
    refine diff_at (fun j hj => (same j (by omega)).mpr (take_eq_of fun k hk => h1' k (by omega))) ha hb fun e => ?_
    have := (same i (by omega)).mp (by rw [ha, hb, e])
    have := get_of_take this (j := i) (by omega)
    rw [h2', h3] at this
    exact h4 (Option.some.inj this)
  · rw [diff_none h]
    refine diff_none fun j hj => (same j (by omega)).mpr (take_eq_of fun k hk => ?_)
    have := h k (by omega)
    rw [List.getElem?_take_of_lt (by omega)] at this
    exact this
theorem chain_due {xs ys : List En} (ap : ∀ k, k < min xs.length ys.length → ApartAt xs ys k) : partF (chainF xs) (chainF ys) = diffF xs ys ∧ partF (chainF ys) (chainF xs) = diffF xs ys := by
  have := chain_diff ap xs.length
  rw [List.take_length] at this
  refine ⟨this, ?_⟩
  rw [← this, part_diff, part_diff, diff_symm]
/-- where a mirror of the first n stops -/
def atF (own ys : List En) : Option Nat := match diffF own ys with
  | some k => some k
  | none => if ys.length < own.length then some (ys.length + 1) else none
theorem diff_pre {α : Type} [DecidableEq α] {xs ys : List α} (h : diffF xs ys = none) (hl : xs.length ≤ ys.length) : ys = xs ++ ys.drop xs.length := by
  rcases diff_cases xs ys with ⟨i, x, y, h1, h2, h3, h4⟩ | h2
  · rw [diff_at h1 h2 h3 h4] at h
    cases h
  · have := take_eq_of (k := xs.length) fun j hj => h2 j (by omega)
    rw [List.take_length] at this
    have e := List.take_append_drop xs.length ys
    rw [← this] at e
    exact e.symm
theorem take_first (xs : List En) (n : Nat) : takeF [] xs n = .inr (xs.take n) := by
  unfold takeF
  have : partF (chainF []) (chainF xs) = none := by
    rw [part_diff]
    exact diff_none fun j hj => by simp [chainF] at hj
  rw [this]
  simp
theorem take_second {xs ys : List En} (ap : ∀ k, k < min xs.length ys.length → ApartAt xs ys k) (n : Nat) (hy : ys.length ≤ 1000) :
    takeF (xs.take n) ys 1000 = match atF (xs.take n) ys with | some k => .inl k | none => .inr (ys.drop (xs.take n).length) := by
  unfold takeF atF
  rw [chain_diff ap n]
  cases diffF (xs.take n) ys with
  | some k => rfl
  | none =>
    by_cases h : ys.length < (xs.take n).length
    · simp only [if_pos h]
    · simp only [if_neg h]
      rw [List.take_of_length_le (by rw [List.length_drop]; omega)]
theorem at_none {own ys : List En} (h : atF own ys = none) : own ++ ys.drop own.length = ys ∧ (ys.drop own.length).length = ys.length - own.length ∧ own.length ≤ ys.length := by
  unfold atF at h
  cases e : diffF own ys with
  | some k => rw [e] at h; cases h
  | none =>
    rw [e] at h
    by_cases hl : ys.length < own.length
    · simp only [if_pos hl] at h
      cases h
    · exact ⟨(diff_pre e (by omega)).symm, by rw [List.length_drop], by omega⟩
end Wy
set_option Elab.async false
set_option linter.all false
set_option maxRecDepth 100000
set_option maxHeartbeats 4000000
namespace Wy
open PySem PySem.Spec PyProof.Rows L2 Ab
/-! ### the law -/
theorem wb_split {X : Cx} {st : Stmt} {sts : List Stmt} {Γ : List (Option D)} {S : List Cell} {P : Post} (Q : List (Option D) → List Cell → Prop) (h1 : WS X st Γ S { P with nx := Q }) (h2 : ∀ Γ1 S1, Q Γ1 S1 → WB X sts Γ1 S1 P) : WB X (st :: sts) Γ S P :=
  wb_cons fun σ ρ M H E ok sl sat => h1 σ ρ M H E ok sl ⟨fun Γ' S' σ' ρ' M' H' p => sat.nx Γ' S' σ' ρ' M' H' (h2 _ _ p), sat.rt, sat.bk, sat.ct, sat.ex⟩
theorem keep_but {l : Nat} {S S' : List Cell} {c : Cell} (h : But l l (S ++ [c]) S') (hl : S.length ≤ l) : Keep S S' := ⟨by have := h.len; rw [List.length_append] at this; omega, fun j hj => by
  rw [h.at_ j (by rw [List.length_append]; omega) (by omega) (by omega), List.getElem?_append_left hj]⟩
theorem opt_now {S : List Cell} (o : Option Nat) : NowD S (optD o) (optD o) := by cases o <;> rfl
theorem opt_ok (o : Option Nat) : okD (optD o) = true := by cases o <;> rfl
theorem abc_nm : ∀ s ∈ abc, NameOk s := by
  have h : ∀ s ∈ abc, 1 ≤ s.length ∧ s.length ≤ 8 ∧ ∀ c ∈ s.cps.toList, c ∈ lettersS.cps.toList := by decide +kernel
  exact fun s hs => ⟨(h s hs).1, (h s hs).2.1, (h s hs).2.2⟩
def cLaw (T : Addr) : Ct := fun ds S Φ Ψ => ∃ cs : List Int, ds = [.lst (cs.map D.int)] ∧ cs.length ≤ 63 ∧ S[0]? = some (tbC T) ∧ ∀ S', Φ (.bl true) S'
section
variable {P : Program} {w : World} {K : PySem.W.Frag} {mg : Str → Option Value} {base : Heap} {f : Addr} {fd : FuncData} {CR CM CF T : Addr}
abbrev nLaw : List Str := ["script", "cell", "deck", "names", "rows", "others", "one", "other", "due", "many", "mirror", "own", "at", "told", "e"]
theorem scLaw : FnScope nLaw ["script"] (defScope s_law) := ⟨rfl, rfl, rfl, by decide +kernel, rfl, by decide +kernel, by decide +kernel⟩
theorem ok_law (F : FnP K "law" s_law f fd) (clR : Cls K CR) (clM : Cls K CM) (gT : mg "tuple" = none) (gL : mg "len" = none) (hmF : mg "Forked" = some (.ref CF)) (XF : XfC K CF) (hno : PySem.W.findIn K (.ref CF) "at" = some none) (hex : PySem.W.exmOne K (.ref CF) (.ref CF) = some true)
    (hD : Has P w K mg base 1 "_law_deck" ["cell", "turn"] cDeck) (hP : Has P w K mg base 1 "_law_pick" ["deck", "many"] cPick) (hSN : Has P w K mg base 2 "_law_some_names" ["deck"] cSomeN) (hEn : Has P w K mg base 7 "_law_entries" ["deck", "names", "many"] cLawEnts) (hFk : Has P w K mg base 2 "_law_fork" ["deck", "rows", "names"] cLawFork)
    (hAp : Has P w K mg base 8 "_law_apart" ["rows", "others"] cApart) (hReg : HasCK P w K mg base 11 "Registry" CR ["self", "entries"] "entries" (cRegInit CR T)) (hFi : Has P w K mg base 1 "_law_first_unlike" ["one", "other"] cFirst) (hPa : Has P w K mg base 1 "parting" ["one", "other"] cPart)
    (hCR : HasM P w K mg base 8 CR "chain" ["self"] (cSelfCh CR)) (hMir : HasC P w K mg base 1 "Mirror" CM ["self"] (cMirInit CM)) (hTk : HasMK P w K mg base 9 CM "take" ["self", "registry", "most"] "most" (.int 1000) (cTake CM CR CF)) (hEM : HasM P w K mg base 1 CM "entries" ["self"] (cEnts CM)) :
    FnOk P w K mg base (L2.CX P w) 13 f fd ["script"] (spOf ⟨P, w, K⟩ (cLaw T)) := by
  refine fnS_of F scLaw (cLaw T) (fun ds S Φ Ψ h => by obtain ⟨_, rfl, _⟩ := h; rfl) ?_
  intro cdv A outer s H E hr ds S Φ Ψ ⟨cs, ed, hcs, gtb, k⟩
  subst ed
  have nd := scLaw.nd
  have hu : A.units + 3 + 80 < cLine := hu80 hr
  have r1 := hr.mono (show 1 ≤ 12 by decide)
  have r2 := hr.mono (show 2 ≤ 12 by decide)
  have r8 := hr.mono (show 8 ≤ 12 by decide)
  have r9 := hr.mono (show 9 ≤ 12 by decide)
  obtain ⟨fR, fdR, FR, mR, MkR, kbR⟩ := hReg
  obtain ⟨fC, fdC, FC, mC, bC⟩ := hCR
  obtain ⟨fT, fdT, FT, mT, kbT, d0T, vT, bT⟩ := hTk
  obtain ⟨fE, fdE, FE, mE, bE⟩ := hEM
  refine wb_cons (ws_forI (passes_of rfl) rfl (wi_list (we_slice sl_list (we_bin op_catL (we_lst (wa_cons (we_int (wa_nil ⟨by simp, we_name 0 rfl (r2_catL (xs := [.int 0]) (ys := cs.map D.int) rfl rfl (by rw [List.length_map]; simp; omega) (we_int ⟨6, rfl, rs_lst rfl ?_⟩))⟩))))))))
  have ec : Ab.cutD ([D.int 0] ++ cs.map D.int) none (some 6) = (((0 : Int) :: cs).take 6).map D.int := by
    have := cut_to (xs := ((0 : Int) :: cs).map D.int) 6
    rw [← List.map_take] at this
    exact this
  rw [ec]
  refine ⟨_, rfl, fun i Γ' S' => S'[0]? = some (tbC T) ∧ ∃ a1 a2 a3 a4 a5 a6 a7 a8 a9 b0 b1 b2 b3 b4 : Option D, Γ' = [some (.lst (cs.map D.int)), a1, a2, a3, a4, a5, a6, a7, a8, a9, b0, b1, b2, b3, b4], ⟨gtb, _, _, _, _, _, _, _, _, _, _, _, _, _, _, rfl⟩, (fun _ _ _ _ _ => rfl), ?_, ?_⟩
  · rintro i y Γ' S0 hy ⟨t0, a1, a2, a3, a4, a5, a6, a7, a8, a9, b0, b1, b2, b3, b4, rfl⟩
    rw [List.getElem?_map] at hy
    obtain ⟨cell, hi, rfl⟩ := Option.map_eq_some_iff.mp hy
    have h0 := lt_of_get t0
    refine wg_name 1 ?_ nd
    refine wb_cons (ws_set 2 nd (we_callH hD r1 (wa_cons (we_name 1 rfl (wa_cons (we_int (wa_nil ⟨cell, rfl, fun S1 l k1 hl1 d1 => ?_⟩)))))))
    have t1 := k1.get t0
    have hl0 : 0 ≠ l := by omega
    refine wb_cons (ws_set 3 nd (we_callH hSN r2 (wa_cons (we_name 2 rfl (wa_nil ⟨l, 34, rfl, d1, by omega, fun m S2 hm2 hm5 bt2 d2 => ?_⟩)))))
    have t2 := bt2.get t1 hl0 hl0
    have nz : (abc.take m).length ≤ 10 := by rw [List.length_take]; omega
    have nne : abc.take m ≠ [] := fun z => by
      have := congrArg List.length z
      rw [List.length_take] at this
      have e5 : abc.length = 5 := rfl
      simp only [List.length_nil] at this
      omega
    have nok : ∀ s ∈ abc.take m, NameOk s := fun s hs => abc_nm s (List.mem_of_mem_take hs)
    generalize abc.take m = ns at nz nne nok ⊢
    refine wb_cons (ws_set 4 nd (we_callH hEn (hr.mono (by decide)) (wa_cons (we_name 2 rfl (wa_cons (we_name 3 rfl (wa_cons (we_bin op_add (we_int (we_callH hP r1 (wa_cons (we_name 2 rfl (wa_cons (we_int (wa_nil ⟨l, 8, 34 + 1, rfl, by decide, by decide, d2, by omega, fun rr S3 hrr bt3 d3 => r2_int0 (wa_nil ⟨l, 34 + 1 + 1, ns, 2 + rr, by rw [show ((2 + rr : Nat) : Int) = 2 + ((rr : Nat) : Int) by omega], nne, nz, nok, by omega, d3, by omega, fun xs S4 c hxl hxo bt4 d4 hc gx => ?_⟩)⟩)))))))))))))))
    have t3 := bt3.get t2 hl0 hl0
    have t4 := bt4.get t3 hl0 hl0
    have hll := d3.lt
    refine wb_cons (ws_set 5 nd (we_callH hFk r2 (wa_cons (we_name 2 rfl (wa_cons (we_name 4 rfl (wa_cons (we_name 3 rfl (wa_nil ⟨l, 34 + 1 + 1 + 5000, .ptr c, .lst (ns.map D.str), xs, rfl, gx, fun S' b => b.get (l := c) gx (by omega) (by omega), hxo, by omega, d4, by omega, fun ys S5 hf bt5 d5 => ?_⟩)))))))))
    have t5 := bt5.get t4 hl0 hl0
    have gx5 := bt5.get gx (by omega) (by omega)
    have hyl := hf.few
    have hxk := hxo.ok
    have hyk := hf.ok
    refine wb_cons (ws_if (wt_not (wt_val (we_callH hAp r8 (wa_cons (we_name 4 rfl (wa_cons (we_name 5 rfl (wa_nil ⟨.ptr c, .lst (ys.map enD), xs, ys, rfl, gx5, rfl, hxk, hyk, by omega, by omega, fun S6 b k6 hap => ⟨b, rfl, ?_⟩⟩)))))))))
    have t6 := k6.get t5
    cases b with
    | false => exact ifD (.inl ⟨rfl, wb_cons (ws_continue ⟨t6, _, _, _, _, _, _, _, _, _, _, _, _, _, _, rfl⟩)⟩)
    | true =>
      have ap := hap rfl
      obtain ⟨due1, due2⟩ := chain_due ap
      refine ifD (.inr ⟨rfl, wb_nil ?_⟩)
      have gx6 := k6.get gx5
      have d6 := d5.keep k6
      refine wb_cons (ws_par 6 7 rfl nd (we_makeK1 MkR FR hr mR kbR (we_tupF rfl gT (we_name 4 rfl ⟨xs.map enD, gx6, S6.length, xs, rfl, get_new, get_push t6, hxk, by omega, fresh_of (dist_of hxo), fun S7 r7 bt7 h7 g7 gr7 => ⟨rfl, ?_⟩⟩))))
      have k7 := keep_but bt7 (Nat.le_refl _)
      refine we_makeK1 MkR FR hr mR kbR (we_tupF rfl gT (we_name 5 rfl ⟨ys.map enD, rfl, S7.length, ys, rfl, get_new, get_push (k7.get t6), hyk, by omega, fresh_of hf.dist, fun S8 r8' bt8 h8 g8 gr8 => ⟨rfl, ?_⟩⟩))
      have k8 := keep_but bt8 (Nat.le_refl _)
      have g78 := k8.get g7
      have gr78 := k8.get gr7
      have gx8 := k8.get (k7.get gx6)
      have t8 := k8.get (k7.get t6)
      have d8 := (d6.keep k7).keep k8
      generalize S6.length = p1 at g78
      generalize S7.length = p2 at g8
      refine wb_cons (ws_set 8 nd (we_callH hFi r1 (wa_cons (we_name 4 rfl (wa_cons (we_name 5 rfl (wa_nil ⟨.ptr c, .lst (ys.map enD), xs, ys, rfl, gx8, rfl, hxk, hyk, by omega, by omega, ?_⟩)))))))
      have uD : A.units + 3 + 64 < cLine := by omega
      refine wb_cons (ws_ifF (wt_ww (ww_orF (wt_cmp (op_neD uD) rfl (we_callH hPa r1 (wa_cons (we_meth0 clR mC FC r8 bC (we_name 6 rfl ⟨⟨_, ⟨p1, rfl, g78⟩, rfl⟩, p1, .ptr r7, xs, rfl, g78, gr78, hxk, by omega, fun S9 c9 k9 h9 g9 => ?_⟩))))))))
      refine wa_cons (we_meth0 clR mC FC r8 bC (we_name 7 rfl ⟨⟨_, ⟨p2, rfl, k9.get g8⟩, rfl⟩, p2, .ptr r8', ys, rfl, k9.get g8, k9.get gr8, hyk, by omega, fun S10 c10 k10 h10 g10 => ?_⟩))
      have k910 := k9.trans k10
      refine wa_nil ⟨.ptr c9, .ptr c10, chainF xs, chainF ys, rfl, k10.get g9, g10, by rw [chain_len]; omega, we_name 8 rfl ?_⟩
      rw [due1]
      refine r2_neD (opt_now _) (opt_now _) (opt_ok _) (opt_ok _) (eqv_same (opt_ok _)) ⟨false, rfl, rfl, ?_⟩
      refine ww_or1F (wt_cmp (op_neD uD) rfl (we_callH hPa r1 (wa_cons (we_meth0 clR mC FC r8 bC (we_name 7 rfl ⟨⟨_, ⟨p2, rfl, k910.get g8⟩, rfl⟩, p2, .ptr r8', ys, rfl, k910.get g8, k910.get gr8, hyk, by omega, fun S11 c11 k11 h11 g11 => ?_⟩)))))
      have k911 := k910.trans k11
      refine wa_cons (we_meth0 clR mC FC r8 bC (we_name 6 rfl ⟨⟨_, ⟨p1, rfl, k911.get g78⟩, rfl⟩, p1, .ptr r7, xs, rfl, k911.get g78, k911.get gr78, hxk, by omega, fun S12 c12 k12 h12 g12 => ?_⟩))
      have k912 := k911.trans k12
      refine wa_nil ⟨.ptr c11, .ptr c12, chainF ys, chainF xs, rfl, k12.get g11, g12, by rw [chain_len]; omega, we_name 8 rfl ?_⟩
      rw [due2]
      refine r2_neD (opt_now _) (opt_now _) (opt_ok _) (opt_ok _) (eqv_same (opt_ok _)) ⟨false, rfl, rfl, rfl, wb_nil ?_⟩
      have f1 := k912.get g78
      have f2 := k912.get gr78
      have f3 := k912.get g8
      have f4 := k912.get gr8
      have f5 := k912.get gx8
      have f6 := k912.get t8
      have d12 := d8.keep k912
      clear g78 gr78 g8 gr8 gx8 t8 d8 gx6 t6 gx5 t5 t4 t3 t2 t1 gx k9 k10 k11 k12 k910 k911 k912 g9 g10 g11 g12
      have hlc : c ≠ l := by omega
      have hl12 := d12.lt
      have hp1l : p1 ≠ l := fun z => by
        obtain ⟨_, _, _, q, _⟩ := d12
        rw [← z, f1] at q
        cases q
      have hp2l : p2 ≠ l := fun z => by
        obtain ⟨_, _, _, q, _⟩ := d12
        rw [← z, f3] at q
        cases q
      have hr7l : r7 ≠ l := by
        have := d6.lt
        rw [List.length_append] at h7
        omega
      have hr8l : r8' ≠ l := by
        have := d6.lt
        have := k7.len
        rw [List.length_append] at h8
        omega
      refine wb_cons (ws_forI (passes_of rfl) rfl (wi_list (we_lst (wa_cons (we_int (wa_cons (we_int (wa_cons (we_callH hP r1 (wa_cons (we_name 2 rfl (wa_cons (we_bin op_add (we_len rfl gL (we_name 4 rfl ⟨_, lst_seq (x := .ptr c) f5, we_int (r2_int0 (wa_nil ⟨l, xs.length + 1, 34 + 1 + 1 + 5000 + 2, by rw [List.length_map, show ((xs.length : Nat) : Int) + 1 = ((xs.length + 1 : Nat) : Int) by omega], by omega, by omega, d12, by omega, fun rm S13 hrm bt13 d13 => wa_cons (we_len rfl gL (we_name 4 rfl ⟨_, lst_seq (x := .ptr c) (bt13.get f5 hlc hlc), wa_nil ⟨by simp, ?_⟩⟩))⟩))⟩)))))))))))))))
      have g1 := bt13.get f1 hp1l hp1l
      have g2 := bt13.get f2 hr7l hr7l
      have g3 := bt13.get f3 hp2l hp2l
      have g4 := bt13.get f4 hr8l hr8l
      have g5 := bt13.get f5 hlc hlc
      have g6 := bt13.get f6 hl0 hl0
      refine ⟨_, rfl, fun j Γ' S' => Keep S13 S' ∧ ∃ a9 b0 b1 b2 b3 b4 : Option D, Γ' = [some (.lst (cs.map D.int)), some (.int cell), some (.ptr l), some (.lst (ns.map D.str)), some (.ptr c), some (.lst (ys.map enD)), some (.ptr p1), some (.ptr p2), some (optD (diffF xs ys)), a9, b0, b1, b2, b3, b4], ⟨Keep.refl, _, _, _, _, _, _, rfl⟩, (fun _ _ _ _ _ => rfl), ?_, ?_⟩
      · rintro j z Γ' S14 hz ⟨k14, a9, b0, b1, b2, b3, b4, rfl⟩
        obtain ⟨n, hn, rfl⟩ : ∃ n : Nat, n ≤ xs.length ∧ z = .int (n : Nat) := by
          have hm := List.mem_of_getElem? hz
          rw [List.length_map] at hm
          simp only [List.mem_cons, List.not_mem_nil, or_false] at hm
          rcases hm with z | z | z | z
          · exact ⟨0, by omega, z⟩
          · exact ⟨1, by omega, z⟩
          · exact ⟨rm, by omega, z⟩
          · exact ⟨xs.length, by omega, z⟩
        clear hz
        have hon : (xs.take n).length = n := by rw [List.length_take]; omega
        have hok : ∀ x ∈ xs.take n, EnOk x := fun x hx => hxk x (List.mem_of_mem_take hx)
        refine wg_name 9 ?_ nd
        refine wb_cons (ws_set 10 nd (we_makeH hMir r2 ⟨S14.length, rfl, get_new, fun S15 rM bt15 h15 gm15 gr15 => ⟨rfl, ?_⟩⟩))
        have k15 := keep_but bt15 (Nat.le_refl _)
        have kk := k14.trans k15
        refine wb_cons (ws_expr (we_methK1 clM mT FT r9 kbT (we_name 10 rfl ⟨⟨_, ⟨S14.length, rfl, gm15⟩, rfl⟩, we_name 6 rfl (we_name 9 rfl ⟨S14.length, p1, .ptr rM, .ptr r7, [], xs, n, rfl, gm15, gr15, kk.get g1, kk.get g2, (fun x hx => by cases hx), hxk, by simp, by omega, by omega, (fun k' S16 e _ => by rw [take_first] at e; cases e), fun m' S16 e k16 => ?_⟩)⟩)))
        rw [take_first] at e
        cases e
        have k17 : Keep S13 (S16.set S14.length (.ins CM [("rows", .lst (([] ++ xs.take n).map enD))])) := (kk.trans k16).set (by have := k14.len; omega)
        have gm17 : (S16.set S14.length (.ins CM [("rows", .lst (([] ++ xs.take n).map enD))]))[S14.length]? = some (.ins CM [("rows", .lst ((xs.take n).map enD))]) := get_set (k16.get gm15)
        have kS14 : S13.length ≤ S14.length := k14.len
        generalize S16.set S14.length (.ins CM [("rows", .lst (([] ++ xs.take n).map enD))]) = S17 at k17 gm17 ⊢
        generalize S14.length = pm at gm17 kS14 ⊢
        refine wb_cons (ws_set 11 nd (we_slice sl_list (we_name 4 rfl (we_name 9 rfl ⟨_, rfl, rs_lst (x := .ptr c) (k17.get g5) ?_⟩))))
        rw [cut_to, ← List.map_take]
        refine wb_cons (ws_set 12 nd (we_callH hFi r1 (wa_cons (we_name 11 rfl (wa_cons (we_name 5 rfl (wa_nil ⟨.lst ((xs.take n).map enD), .lst (ys.map enD), xs.take n, ys, rfl, rfl, rfl, hok, hyk, by omega, by omega, ?_⟩)))))))
        have ts := take_second ap n (by omega)
        generalize xs.take n = own at hon hok gm17 ts ⊢
        refine wb_split (fun Γ1 S1 => Γ1 = [some (.lst (cs.map D.int)), some (.int cell), some (.ptr l), some (.lst (ns.map D.str)), some (.ptr c), some (.lst (ys.map enD)), some (.ptr p1), some (.ptr p2), some (optD (diffF xs ys)), some (.int (n : Nat)), some (.ptr pm), some (.lst (own.map enD)), some (optD (atF own ys)), b3, b4] ∧ S1 = S17) ?_ ?_
        · cases hdf : diffF own ys with
          | some k' =>
            have ea : atF own ys = some k' := by unfold atF; rw [hdf]
            rw [ea]
            exact ws_ifF (wt_ww (ww_andD (wt_cmp op_isN rfl (we_name 12 rfl (we_non (r2_isN (d := .int (k' : Nat)) (b := false) (.inr ⟨rfl, rfl⟩) ⟨_, rfl, .inr ⟨rfl, rfl, wb_nil ⟨rfl, rfl⟩⟩⟩))))))
          | none =>
            by_cases hlt : ys.length < n
            · have ea : atF own ys = some (ys.length + 1) := by
                unfold atF
                rw [hdf]
                exact if_pos (by omega)
              rw [ea]
              refine ws_ifT (wt_ww (ww_andD (wt_cmp op_isN rfl (we_name 12 rfl (we_non (r2_isN (d := .non) (b := true) (.inl ⟨rfl, rfl⟩) ⟨_, rfl, .inl ⟨rfl, ?_⟩⟩))))))
              refine ww_and1 (wt_cmp op_lt rfl (we_len rfl gL (we_name 5 rfl ⟨ys.map enD, rfl, we_name 9 rfl (r2_cmp0 ⟨_, rfl, decide_eq_true (by rw [List.length_map]; omega), ?_⟩)⟩)))
              refine wb_cons (ws_set 12 nd (we_bin op_add (we_len rfl gL (we_name 5 rfl ⟨ys.map enD, rfl, we_int (r2_int0 (wb_nil ⟨?_, rfl⟩))⟩))))
              rw [List.length_map, show ((ys.length : Nat) : Int) + 1 = ((ys.length + 1 : Nat) : Int) by omega]
              rfl
            · have ea : atF own ys = none := by
                unfold atF
                rw [hdf]
                exact if_neg (by omega)
              rw [ea]
              refine ws_ifF (wt_ww (ww_andD (wt_cmp op_isN rfl (we_name 12 rfl (we_non (r2_isN (d := .non) (b := true) (.inl ⟨rfl, rfl⟩) ⟨_, rfl, .inl ⟨rfl, ?_⟩⟩))))))
              exact ww_and1 (wt_cmp op_lt rfl (we_len rfl gL (we_name 5 rfl ⟨ys.map enD, rfl, we_name 9 rfl (r2_cmp0 ⟨_, rfl, decide_eq_false (by rw [List.length_map]; omega), wb_nil ⟨rfl, rfl⟩⟩)⟩)))
        rintro Γ1 S1 ⟨rfl, rfl⟩
        have h1000 : ∀ M ρ, Rp (gd (cxOf (L2.CX P w) P w K mg base nLaw "law" (defScope s_law) f cdv A outer s H E)) M ρ (.int 1000) (.int 1000) := fun _ _ => .int _
        have okl : okD (.lst (own.map enD)) = true := ens_ok hok
        have oky : okD (.lst (ys.map enD)) = true := ens_ok hyk
        refine wb_cons (ws_set 13 nd (we_non ?_))
        cases hat : atF own ys with
        | some kk2 =>
          rw [hat] at ts
          refine wb_cons (ws_tryAt (CF := CF) (i := 14) (iy := 13) rfl rfl nd rfl rfl (by decide) rfl rfl ⟨rfl, by decide, .inl hmF⟩ XF hno hex (fun pn xe pw => ?_))
          refine wb_cons (ws_set 13 nd (we_methD1 clM mT FT r9 bT vT h1000 (we_name 10 rfl ⟨⟨_, ⟨pm, rfl, gm17⟩, rfl⟩, we_name 7 rfl ⟨pm, p2, .lst (own.map enD), .ptr r8', own, ys, 1000, rfl, gm17, rfl, k17.get g3, k17.get g4, hok, hyk, by omega, by omega, by omega, fun k' S18 e k18 => ?_, fun m' S18 e k18 => ?_⟩⟩)))
          rotate_left
          · rw [ts] at e
            cases e
          rw [ts] at e
          cases e
          refine ⟨rfl, by simp, .int (kk2 : Nat), rfl, ?_⟩
          refine wb_cons (ws_ifF (wt_cmp (op_neD uD) rfl (we_name 13 rfl (we_ifT (wt_cmp op_notN rfl (we_name 12 rfl (we_non (r2_notN (d := .int (kk2 : Nat)) (b := true) (.inr ⟨rfl, rfl⟩) ⟨_, rfl, rfl, we_lst (wa_cons (we_name 12 rfl (wa_nil ⟨by simp, r2_neD (d := .lst [.int (kk2 : Nat)]) (e := .lst [.int (kk2 : Nat)]) rfl rfl rfl rfl (eqv_same rfl) ⟨_, rfl, rfl, wb_nil ?_⟩⟩)))⟩))))))))
          refine wb_cons (ws_ifF (wt_cmp (op_neD uD) rfl (we_meth0 clM mE FE r1 bE (we_name 10 rfl ⟨⟨_, ⟨pm, rfl, k18.get gm17⟩, rfl⟩, pm, .lst (own.map enD), own, rfl, k18.get gm17, rfl, ?_⟩))))
          refine we_ifT (wt_cmp op_notN rfl (we_name 12 rfl (we_non (r2_notN (d := .int (kk2 : Nat)) (b := true) (.inr ⟨rfl, rfl⟩) ⟨_, rfl, rfl, we_name 11 rfl (r2_neD (d := .lst (own.map enD)) (e := .lst (own.map enD)) rfl rfl okl okl (eqv_same okl) ⟨_, rfl, rfl, wb_nil (wb_nil ?_)⟩)⟩))))
          exact ⟨k17.trans k18, _, _, _, _, _, _, rfl⟩
        | none =>
          rw [hat] at ts
          obtain ⟨e1, e2, e3⟩ := at_none hat
          refine wb_cons (ws_tryAt (CF := CF) (i := 14) (iy := 13) rfl rfl nd rfl rfl (by decide) rfl rfl ⟨rfl, by decide, .inl hmF⟩ XF hno hex (fun pn xe pw => ?_))
          refine wb_cons (ws_set 13 nd (we_methD1 clM mT FT r9 bT vT h1000 (we_name 10 rfl ⟨⟨_, ⟨pm, rfl, gm17⟩, rfl⟩, we_name 7 rfl ⟨pm, p2, .lst (own.map enD), .ptr r8', own, ys, 1000, rfl, gm17, rfl, k17.get g3, k17.get g4, hok, hyk, by omega, by omega, by omega, fun k' S18 e k18 => ?_, fun m' S18 e k18 => ?_⟩⟩)))
          · rw [ts] at e
            cases e
          rw [ts] at e
          cases e
          refine wb_nil ?_
          have gm18 : (S18.set pm (.ins CM [("rows", .lst ((own ++ ys.drop own.length).map enD))]))[pm]? = some (.ins CM [("rows", .lst (ys.map enD))]) := by
            rw [e1]
            exact get_set (k18.get gm17)
          have k19 : Keep S13 (S18.set pm (.ins CM [("rows", .lst ((own ++ ys.drop own.length).map enD))])) := (k17.trans k18).set kS14
          generalize S18.set pm (.ins CM [("rows", .lst ((own ++ ys.drop own.length).map enD))]) = S19 at gm18 k19 ⊢
          have e4 : ((ys.drop own.length).length : Int) = ((ys.map enD).length : Nat) - ((n : Nat) : Int) := by
            rw [e2, List.length_map]
            omega
          refine wb_cons (ws_ifF (wt_cmp (op_neD uD) rfl (we_name 13 rfl (we_ifF (wt_cmp op_notN rfl (we_name 12 rfl (we_non (r2_notN (d := .non) (b := false) (.inl ⟨rfl, rfl⟩) ⟨_, rfl, rfl, we_bin op_sub (we_len rfl gL (we_name 5 rfl ⟨ys.map enD, rfl, we_name 9 rfl (r2_int0 ?_)⟩))⟩))))))))
          rw [← e4]
          refine r2_neD (d := .int ((ys.drop own.length).length : Nat)) (e := .int ((ys.drop own.length).length : Nat)) rfl rfl rfl rfl (eqv_same rfl) ⟨_, rfl, rfl, wb_nil ?_⟩
          refine wb_cons (ws_ifF (wt_cmp (op_neD uD) rfl (we_meth0 clM mE FE r1 bE (we_name 10 rfl ⟨⟨_, ⟨pm, rfl, gm18⟩, rfl⟩, pm, .lst (ys.map enD), ys, rfl, gm18, rfl, ?_⟩))))
          refine we_ifF (wt_cmp op_notN rfl (we_name 12 rfl (we_non (r2_notN (d := .non) (b := false) (.inl ⟨rfl, rfl⟩) ⟨_, rfl, rfl, we_name 5 rfl (r2_neD (d := .lst (ys.map enD)) (e := .lst (ys.map enD)) rfl rfl oky oky (eqv_same oky) ⟨_, rfl, rfl, wb_nil (wb_nil ?_)⟩)⟩))))
          exact ⟨k19, _, _, _, _, _, _, rfl⟩
      · rintro Γ' S' ⟨k14, a9, b0, b1, b2, b3, b4, rfl⟩
        exact wb_nil ⟨k14.get g6, _, _, _, _, _, _, _, _, _, _, _, _, _, _, rfl⟩
  · rintro Γ' S' ⟨t0, a1, a2, a3, a4, a5, a6, a7, a8, a9, b0, b1, b2, b3, b4, rfl⟩
    refine wb_cons (ws_ret (we_andV (we_cmp op_isN rfl (we_callH hPa r1 (wa_cons (we_lst (wa_cons (we_int (wa_cons (we_int (wa_cons (we_int (wa_nil ⟨by simp, ?_⟩)))))))))))))
    refine wa_cons (we_lst (wa_cons (we_int (wa_cons (we_int (wa_nil ⟨by simp, wa_nil ⟨_, _, [1, 2, 3], [1, 2], rfl, rfl, rfl, by simp, we_non (r2_isN (d := .non) (b := true) (.inl ⟨rfl, rfl⟩) ⟨rfl, ?_⟩)⟩⟩))))))
    refine we_andV (we_cmp op_isN rfl (we_callH hPa r1 (wa_cons (we_lst (wa_nil ⟨by simp, ?_⟩)))))
    refine wa_cons (we_lst (wa_nil ⟨by simp, wa_nil ⟨_, _, [], [], rfl, rfl, rfl, by simp, we_non (r2_isN (d := .non) (b := true) (.inl ⟨rfl, rfl⟩) ⟨rfl, ?_⟩)⟩⟩))
    refine we_one (we_cmp op_eq rfl (we_callH hPa r1 (wa_cons (we_lst (wa_cons (we_int (wa_cons (we_int (wa_nil ⟨by simp, ?_⟩)))))))))
    exact wa_cons (we_lst (wa_cons (we_int (wa_cons (we_int (wa_nil ⟨by simp, wa_nil ⟨_, _, [1, 2], [1, 3], rfl, rfl, rfl, by simp, we_int (r2_eqI (i := 2) (j := 2) (k S'))⟩⟩))))))
end
end Wy
set_option Elab.async false
set_option linter.all false
set_option maxRecDepth 100000
set_option maxHeartbeats 0
namespace Wy
open PySem PySem.Spec PyProof.Rows L2 Ab
/-! ### the head -/
def dO (x : Str) (i : Nat) : He.DefD := ⟨(x, none), x, x, defArgs (top i), defBody (top i), defScope (top i), [], []⟩
def dM (C x q : Str) (i j : Nat) : He.DefD := ⟨(C, some x), x, q, defArgs (inClass (top i) j), defBody (inClass (top i) j), defScope (inClass (top i) j), [], []⟩
/-- the keyword's default -/
def kwAd (K : PySem.W.Frag) : Addr := match K.lookup (He.fAd K ("Registry", some "__init__")) with
  | some ⟨_, _, .func fd, _⟩ => (match fd.kwdefaults with
    | .ref D => (match PySem.W.nsIn K D "entries" with
      | some (some (.ref a)) => a
      | _ => 0)
    | _ => 0)
  | _ => 0
def dRI : He.DefD := { dM "Registry" "__init__" "Registry.__init__" 63 0 with kwd := [("entries", .adr kwAd)] }
def dMT : He.DefD := { dM "Mirror" "take" "Mirror.take" 67 3 with kwd := [("most", .int 1000)] }
def fns : List He.DefD := [dO "is_from" 13, dO "is_edition" 14, dO "place_of" 15, dO "show_edition" 16, dO "is_range" 21, dO "show_stretch" 22, dO "show_range" 23, dO "is_name" 29, dO "is_path" 30, dO "is_text" 31, dO "is_step" 32, dO "is_rising" 38, dO "are_extras" 39, dO "is_need" 40, dO "are_rows_of" 41, dO "are_needs" 42, dO "is_extra" 43, dO "is_file" 44, dO "is_ware" 45, dO "show_names" 47, dO "show_need" 48, dO "folded" 49, dO "show_step" 50, dO "show_ware" 51, dO "show_entry" 52, dO "mark" 57, dO "chain_of" 59, dO "wares_of" 60, dO "parting" 66, dO "_law_deck" 69, dO "_law_pick" 70, dO "_law_edition" 71, dO "_law_place" 72, dO "_law_at" 73, dO "_law_joined" 74, dO "_law_span" 75, dO "_law_need" 76, dO "_law_needs" 77, dO "_law_ware" 78, dO "_law_one" 79, dO "_law_some_names" 80, dO "_law_entries" 81, dO "_law_fork" 82, dO "_law_first_unlike" 83, dO "_law_chain" 84, dO "_law_apart" 85, dO "law" 86, dM "Registry" "put" "Registry.put" 63 3, dM "Registry" "warn" "Registry.warn" 63 7, dM "Registry" "entries" "Registry.entries" 63 8, dM "Registry" "chain" "Registry.chain" 63 9, dM "Mirror" "__init__" "Mirror.__init__" 67 0, dM "Mirror" "entries" "Mirror.entries" 67 4, dM "Mirror" "chain" "Mirror.chain" 67 5, dM "Forked" "__init__" "Forked.__init__" 9 0, dRI, dMT]
def nGlo : List Str := (["is_from", "is_edition", "place_of", "show_edition", "is_range", "show_stretch", "show_range", "is_name", "is_path", "is_text", "is_step", "is_rising", "are_extras", "is_need", "are_rows_of", "are_needs", "is_extra", "is_file", "is_ware", "show_names"] : List Str) ++ (["show_need", "folded", "show_step", "show_ware", "show_entry", "mark", "chain_of", "wares_of", "parting", "_law_deck", "_law_pick", "_law_edition", "_law_place", "_law_at", "_law_joined", "_law_span", "_law_need", "_law_needs", "_law_ware", "_law_one"] : List Str) ++ (["_law_some_names", "_law_entries", "_law_fork", "_law_first_unlike", "_law_chain", "_law_apart", "law", "Registry", "Mirror", "Forked", "YardError", "SIZES"] : List Str)
def nFree : List Str := ["isinstance", "int", "bool", "tuple", "len", "all", "zip", "enumerate", "str", "list", "sorted", "range", "min", "max", "ord"]
def facs : List He.Fa := nGlo.map He.Fa.glo ++ (nFree.map He.Fa.free ++ [.int "MOST_editions" 99, .int "LONGEST_PATH" 20, .int "LONGEST_TEXT" 200, .int "MOST_EXTRAS" 3, .int "MOST_NEEDS" 5, .int "MOST_FILES" 6, .int "MOST_STEPS" 8, .int "MODULUS" 2305843009213693951, .int "BASE" 1000003, .int "BEGIN" 7, .cls "Registry", .cls "Mirror", .noat "Registry" "rows", .noat "Mirror" "rows", .noat "Forked" "at", .meth "Registry" "put", .meth "Registry" "warn", .meth "Registry" "entries", .meth "Registry" "chain", .meth "Mirror" "take", .meth "Mirror" "entries", .meth "Mirror" "chain", .mkr "Registry", .mkr "Mirror", .exm "Forked" "Forked" true])
def gB (K : PySem.W.Frag) (x : Str) (d : D) : Bool := match PySem.W.nsIn K mainGlobals x with
  | some (some u) => valB K u d
  | _ => false
theorem gB_ok {K : PySem.W.Frag} {h : Heap} {mg : Str → Option Value} {x : Str} {d : D} (X : K.In h) (G : h.Ns mainGlobals mg) (c : gB K x d = true) : GD K mg x d := by
  unfold gB at c
  cases e : PySem.W.nsIn K mainGlobals x with
  | none => rw [e] at c; cases c
  | some r =>
    rw [e] at c
    cases r with
    | none => cases c
    | some u => exact ⟨u, PySem.W.mg_of X G e, c⟩
/-- the sizes of steps -/
def szB (K : PySem.W.Frag) : Bool := sizesT.all fun p => match PySem.W.nsIn K (He.ga K "SIZES") p.1 with
  | some (some (.int j _)) => decide (j = p.2)
  | _ => false
theorem szB_ok {K : PySem.W.Frag} (h : szB K = true) : ∀ p ∈ sizesT, ∃ t, PySem.W.nsIn K (He.ga K "SIZES") p.1 = some (some (.int p.2 t)) := fun p hp => by
  have c := List.all_eq_true.mp h p hp
  cases e : PySem.W.nsIn K (He.ga K "SIZES") p.1 with
  | none => rw [e] at c; cases c
  | some r =>
    rw [e] at c
    cases r with
    | none => cases c
    | some u =>
      cases u with
      | int j t =>
        have c : decide (j = p.2) = true := c
        rw [of_decide_eq_true c]
        exact ⟨t, rfl⟩
      | _ => cases c
/-- an own exception class that makes itself -/
def oexB (K : PySem.W.Frag) (C : Addr) : Bool := (match K.lookup C with
  | some ⟨.type t, _, .cls cd, sl⟩ => decide (t = "type") && (match cd.mro, sl.toList with
    | .ref C' :: bm, [_, _, _, _, some (.builtin n), _] => decide (C' = C) && (decide (n = "ValueError.__new__") && (cd.hasDict && (!cd.hasDel && PySem.HandSPX.refsVE bm)))
    | _, _ => false)
  | _ => false) && (He.eqO (PySem.W.findIn K (.ref C) "__setattr__") (some (some (.builtin "object.__setattr__"))) && (decide (PySem.W.subIn K (.ref C) (.type "BaseException") = some true) && (decide (PySem.W.typeIn K (.ref C) = some (.type "type")) && PySem.W.keepIn K (.ref C))))
theorem oexB_ok {K : PySem.W.Frag} {C : Addr} (h : oexB K C = true) : OexC K C := by
  obtain ⟨h1, h⟩ := Bool.and_eq_true_iff.mp h
  obtain ⟨h2, h⟩ := Bool.and_eq_true_iff.mp h
  obtain ⟨h3, h⟩ := Bool.and_eq_true_iff.mp h
  obtain ⟨h4, h5⟩ := Bool.and_eq_true_iff.mp h
  refine ⟨?_, He.eqO_ok h2, of_decide_eq_true h3, of_decide_eq_true h4, h5⟩
  cases q : K.lookup C with
  | none => rw [q] at h1; cases h1
  | some o =>
    obtain ⟨oc, od, dt, osl⟩ := o
    rw [q] at h1
    cases oc with
    | type t =>
      cases dt with
      | cls cd =>
        obtain ⟨a1, a2⟩ := Bool.and_eq_true_iff.mp h1
        have a1 := of_decide_eq_true a1
        obtain ⟨x1, x2, x3, x4, x5, x6, x7, x8, x9, x10, x11⟩ := cd
        obtain ⟨sl⟩ := osl
        split at a2
        · rename_i C' bm s1 s2 s3 s4 n s5 e1 e2
          obtain ⟨c1, q1⟩ := Bool.and_eq_true_iff.mp a2
          obtain ⟨c2, q2⟩ := Bool.and_eq_true_iff.mp q1
          obtain ⟨c3, q3⟩ := Bool.and_eq_true_iff.mp q2
          obtain ⟨c4, c5⟩ := Bool.and_eq_true_iff.mp q3
          have d1 := of_decide_eq_true c1
          have d2 := of_decide_eq_true c2
          simp only at e1 e2 c3 c4
          have d4 : x11 = false := by simpa using c4
          subst d1 d2 a1 e1 e2 d4 c3
          exact ⟨_, _, _, _, _, _, _, _, _, _, _, _, _, _, _, rfl, c5⟩
        · cases a2
      | _ => cases h1
    | _ => cases h1
/-- YardError's own look -/
def yerB (K : PySem.W.Frag) (CY : Addr) : Bool := He.eqO (PySem.W.specialIn K (.ref CY) "__getattribute__") (some (some (.builtin "type.__getattribute__"))) && (PySem.W.readsIn K CY (.type "type") && (match PySem.W.findCls K (.ref CY) (.type "type") "__init__" with
  | some (.val (.builtin s)) => decide (s = "ValueError.__init__")
  | _ => false))
theorem yerB_ok {K : PySem.W.Frag} {CY : Addr} (h : yerB K CY = true) : PySem.W.specialIn K (.ref CY) "__getattribute__" = some (some (.builtin "type.__getattribute__")) ∧ PySem.W.readsIn K CY (.type "type") = true ∧ PySem.W.findCls K (.ref CY) (.type "type") "__init__" = some (.val (.builtin "ValueError.__init__")) := by
  obtain ⟨h1, h⟩ := Bool.and_eq_true_iff.mp h
  obtain ⟨h2, h3⟩ := Bool.and_eq_true_iff.mp h
  refine ⟨He.eqO_ok h1, h2, ?_⟩
  split at h3
  · rename_i s e
    rw [e, of_decide_eq_true h3]
  · cases h3
def forB (K : PySem.W.Frag) : Bool := oexB K (He.ga K "Forked") && (He.eqO (PySem.W.findIn K (.ref (He.ga K "Forked")) "__init__") (some (some (.ref (He.fAd K ("Forked", some "__init__"))))) && (decide (PySem.W.typeIn K (.ref (He.fAd K ("Forked", some "__init__"))) = some (.type "function")) && (L2.xfB K (He.ga K "Forked") && yerB K (He.ga K "YardError"))))
def exB (K : PySem.W.Frag) : Bool := gB K "ANY" anyD && (gB K "NONE" (.tup []) && (gB K "FIRST" firstD && (gB K "LAST" lastD && (gB K "LETTERS" (.str lettersS) && (szB K && forB K)))))
abbrev R : PySem.W.OpenRow := PySem.W.OpenLaw.row PySem.Challenge.rw_wareyard_k83_whole_registries_that_part
def tbs : List He.Tab := [(fun K => He.ga K "SIZES", ["put", "take", "join", "drop"])]
def dfs : List He.Defn := [("wares_of", none)]
/-! the facts of the names, with the interpreter's own statics (a class's attributes are read there) -/
/-- is the bit set -/
def seenB (m a : Nat) : Bool := Nat.beq (Nat.land (Nat.shiftRight m a) 1) 1
/-- the addresses that are new, put ahead -/
noncomputable def addNew {α : Type} (l : List Addr) : Nat → List Addr → (Nat → List Addr → α) → α :=
  List.rec (motive := fun _ => Nat → List Addr → (Nat → List Addr → α) → α) (fun m acc k => k m acc) (fun r _ ih m acc k => HandSHeadRun.frNat r fun r => match seenB m r with
    | true => ih m acc k
    | false => HandSHeadRun.frNat (Nat.lor m (Nat.shiftLeft 1 r)) fun m => ih m (r :: acc) k) l
noncomputable def growNew {α : Type} (g : Addr → Option Obj) (l : List Addr) : Nat → List Addr → (Nat → List Addr → α) → α :=
  List.rec (motive := fun _ => Nat → List Addr → (Nat → List Addr → α) → α) (fun m acc k => k m acc) (fun a _ ih m acc k => addNew (match g a with
    | some o => He.refsD o
    | none => []) m acc fun m acc => ih m acc k) l
noncomputable def wideN (g : Addr → Option Obj) : Nat → List Addr → Nat → List Addr
  | 0, fr, _ => fr
  | n + 1, fr, m => fr ++ growNew g fr m [] fun m new => wideN g n new m
/-- what is named from the module's names on, level by level, the seen ones kept as bits -/
noncomputable def reachY (g : Addr → Option Obj) : List Addr := wideN g 8 [mainGlobals] (Nat.shiftLeft 1 mainGlobals) ++ [cStatics]
noncomputable abbrev fragY (g : Addr → Option Obj) : PySem.W.Frag := He.frT g (reachY g)
noncomputable def obsY (fa : List He.Fa) (fn : List He.DefD) (ts : List He.Tab) (tf : List He.Defn) (ex : PySem.W.Frag → Bool) (g : Addr → Option Obj) : He.AlX := (He.obsT fa fn ts (fragY g), (ex (fragY g)).and (He.tabsB g tf (fragY g)))
theorem saysY {fa : List He.Fa} {fn : List He.DefD} {ts : List He.Tab} {tf : List He.Defn} {ex : PySem.W.Frag → Bool} {w : World} {h : Heap} (e : obsY fa fn ts tf ex h.get? = He.valX fn ts w) : He.SaysX fa fn ts tf ex w h (fragY h.get?) := by
  obtain ⟨m, tb⟩ := Bool.and_eq_true_iff.mp (congrArg Prod.snd e)
  have one : ∀ p ∈ tf, PySem.W.codeHdIn (fragY h.get?) (He.cT (fragY h.get?) p).1 (He.cT (fragY h.get?) p).2 = true ∧ ∃ o, h.get? (He.cT (fragY h.get?) p).2 = some o ∧ He.emptyTab o = true := by
    intro p hp
    obtain ⟨a, b⟩ := Bool.and_eq_true_iff.mp (List.all_eq_true.mp tb p hp)
    refine ⟨a, ?_⟩
    split at b
    · rename_i o q
      exact ⟨o, q, b⟩
    · cases b
  refine ⟨congrArg Prod.fst e, m, fun p hp => (one p hp).1, fun p hp => ?_, fun p hp => ?_⟩
  · obtain ⟨_, o, q, z⟩ := one p hp
    exact He.frT_none q z
  · obtain ⟨_, o, q, z⟩ := one p hp
    rw [q, He.emptyTab_eq z]
noncomputable def hkX : PySem.W.Hook := { He.hookX 8 facs fns tbs dfs exB with
  obs := fun s => obsY facs fns tbs dfs exB s.heap.get?
  of := fun _ _ e => ⟨_, He.frT_in, saysY e⟩ }
noncomputable def obX (s : PySem.W.SharedT) : hkX.α := obsY facs fns tbs dfs exB (HandSHeadRun.getT s)
theorem obX_eq (s : PySem.W.SharedT) : obX s = hkX.obs s.abs := by
  have z : HandSHeadRun.getT s = s.abs.heap.get? := funext (HandSHeadRun.getT_eq s)
  show obsY facs fns tbs dfs exB (HandSHeadRun.getT s) = obsY facs fns tbs dfs exB s.abs.heap.get?
  rw [z]
def nm1 : List PySem.Str := ["_wall", "__name__", "YardError", "NoWare", "NoWarning", "Twice", "NotThere", "Yanked", "NotYanked", "NoEntry", "Forked", "MOST_editions", "LAST", "is_from", "is_edition", "place_of", "show_edition", "FIRST", "ANY", "NONE"]
def nm2 : List PySem.Str := ["is_range", "show_stretch", "show_range", "LETTERS", "LONGEST_PATH", "LONGEST_TEXT", "SIZES", "is_name", "is_path", "is_text", "is_step", "MOST_EXTRAS", "MOST_NEEDS", "MOST_FILES", "MOST_STEPS", "is_rising", "are_extras", "is_need", "are_rows_of", "are_needs"]
def nm3 : List PySem.Str := ["is_extra", "is_file", "is_ware", "show_names", "show_need", "folded", "show_step", "show_ware", "show_entry", "MODULUS", "BASE", "BEGIN", "mark", "chain_of", "wares_of", "yanked_of", "warnings_of", "Registry", "MOST_mirrors", "parting"]
def nm4 : List PySem.Str := ["Mirror", "_law_deck", "_law_pick", "_law_edition", "_law_place", "_law_at", "_law_joined", "_law_span", "_law_need", "_law_needs", "_law_ware", "_law_one", "_law_some_names", "_law_entries", "_law_fork", "_law_first_unlike", "_law_chain", "_law_apart"]
abbrev qR : Program := PySem.W.view R.prog [86]
def looseN : List PySem.Str := nm1 ++ nm2 ++ nm3 ++ nm4
theorem runF (w : World) : HandSHeadRun.RunEq R qR hkX obX 9000 looseN (w.withFollow "special-get-raises" false) := fun os => by kernel_rfl
theorem runT (w : World) : HandSHeadRun.RunEq R qR hkX obX 9000 looseN (w.withFollow "special-get-raises" true) := fun os => by kernel_rfl
theorem runX (w : World) : HandSHeadRun.RunEq R qR hkX obX 9000 looseN w :=
  PySem.W.byRow2 "special-get-raises" (P := fun w => HandSHeadRun.RunEq R qR hkX obX 9000 looseN w) runF runT w
end Wy
set_option Elab.async false
set_option linter.all false
set_option maxRecDepth 100000
set_option maxHeartbeats 0
namespace Wy
open PySem PySem.Spec PyProof.Rows L2 Ab
section
variable {K : PySem.W.Frag} {h : Heap} {mg : Str → Option Value}
theorem g_of (X : K.In h) (G : h.Ns mainGlobals mg) (c : He.SaysD facs fns K) (x : Str) (hx : x ∈ nGlo := by decide +kernel) : mg x = some (.ref (He.ga K x)) :=
  He.glo_ok X G (c.facts (f := .glo x) (List.mem_append_left _ (List.mem_map.mpr ⟨x, hx, rfl⟩)))
theorem n_of (X : K.In h) (G : h.Ns mainGlobals mg) (c : He.SaysD facs fns K) (x : Str) (hx : x ∈ nFree := by decide +kernel) : mg x = none :=
  He.free_ok X G (c.facts (f := .free x) (List.mem_append_right _ (List.mem_append_left _ (List.mem_map.mpr ⟨x, hx, rfl⟩))))
theorem f_of (c : He.SaysD facs fns K) (i : Nat) {f : He.Fa} (hf : facs[i]? = some f := by rfl) : f.ok K = true := c.fact i hf
theorem scFold : FnScope ["text"] ["text"] (defScope (top 49)) := ⟨rfl, rfl, rfl, by decide +kernel, rfl, by decide +kernel, by decide +kernel⟩
theorem facts {P : Program} {w : World} {base : Heap} {T cw : Addr} {fdw : FuncData} (X : K.In h) (G : h.Ns mainGlobals mg) (c : He.SaysD facs fns K) (gSIZES : KTabI K w mg "SIZES" sizesT) (cx : exB K = true) {f : Addr} {fd : FuncData} (FL : FnP K "law" s_law f fd) (TB : LamX.TabB base mg cw T) (F_wares_of : FnP K "wares_of" s_wares_of (He.fAd K ("wares_of", none)) fdw) (hc : fdw.code = .ref cw) : FnOk P w K mg base (L2.CX P w) 13 f fd ["script"] (spOf ⟨P, w, K⟩ (cLaw T)) := by
  obtain ⟨x1, cx⟩ := Bool.and_eq_true_iff.mp cx
  obtain ⟨x2, cx⟩ := Bool.and_eq_true_iff.mp cx
  obtain ⟨x3, cx⟩ := Bool.and_eq_true_iff.mp cx
  obtain ⟨x4, cx⟩ := Bool.and_eq_true_iff.mp cx
  obtain ⟨x5, cx⟩ := Bool.and_eq_true_iff.mp cx
  obtain ⟨x6, x7⟩ := Bool.and_eq_true_iff.mp cx
  have gANY : GD K mg "ANY" anyD := gB_ok X G x1
  have gNONE : GD K mg "NONE" (.tup []) := gB_ok X G x2
  have gFIRST : GD K mg "FIRST" firstD := gB_ok X G x3
  have gLAST : GD K mg "LAST" lastD := gB_ok X G x4
  have gLETTERS : GD K mg "LETTERS" (.str lettersS) := gB_ok X G x5
  obtain ⟨y1, z⟩ := Bool.and_eq_true_iff.mp x7
  obtain ⟨y2, z⟩ := Bool.and_eq_true_iff.mp z
  obtain ⟨y3, z⟩ := Bool.and_eq_true_iff.mp z
  obtain ⟨y4, y5⟩ := Bool.and_eq_true_iff.mp z
  obtain ⟨u1, u2, u3⟩ := yerB_ok y5
  have g := @g_of _ _ _ X G c
  have n := @n_of _ _ _ X G c
  obtain ⟨_, F7⟩ := c.defs (d := dO "folded" 49) (by simp [fns])
  have hFolded : HasT P w K mg base 1 "folded" ["text"] spFold := by
    have e := fold_ok (P := P) (w := w) (mg := mg) (base := base) F7 scFold rfl (by decide +kernel) (by decide +kernel) rfl rfl
    exact ⟨_, _, e, g "folded", F7.kp, F7.bindsN fun _ _ _ _ _ _ us hl => match us, hl with | [_], _ => rfl⟩
  obtain ⟨_, F_is_from⟩ := c.defs (d := dO "is_from" 13) (by simp [fns])
  have h_from := ok_from (P := P) (w := w) (mg := mg) (base := base) F_is_from (g "is_from") (n "isinstance") (n "int") (n "bool")
  obtain ⟨_, F_is_edition⟩ := c.defs (d := dO "is_edition" 14) (by simp [fns])
  have h_isEd := ok_isEd (P := P) (w := w) (mg := mg) (base := base) F_is_edition (g "is_edition") (n "isinstance") (n "tuple") (n "len") (n "all") (He.int_ok X G (f_of c 67 (f := .int "MOST_editions" 99))) h_from
  obtain ⟨_, F_place_of⟩ := c.defs (d := dO "place_of" 15) (by simp [fns])
  have h_place := ok_place (P := P) (w := w) (mg := mg) (base := base) F_place_of (g "place_of")
  obtain ⟨_, F_show_edition⟩ := c.defs (d := dO "show_edition" 16) (by simp [fns])
  have h_showEd := ok_showEd (P := P) (w := w) (mg := mg) (base := base) F_show_edition (g "show_edition")
  obtain ⟨_, F_is_range⟩ := c.defs (d := dO "is_range" 21) (by simp [fns])
  have h_isRg := ok_isRg (P := P) (w := w) (mg := mg) (base := base) F_is_range (g "is_range") (n "isinstance") (n "tuple") (n "len") (n "all") (n "zip") h_isEd h_place
  obtain ⟨_, F_show_stretch⟩ := c.defs (d := dO "show_stretch" 22) (by simp [fns])
  have h_showSp := ok_showSp (P := P) (w := w) (mg := mg) (base := base) F_show_stretch (g "show_stretch") gFIRST gLAST h_showEd
  obtain ⟨_, F_show_range⟩ := c.defs (d := dO "show_range" 23) (by simp [fns])
  have h_showRg := ok_showRg (P := P) (w := w) (mg := mg) (base := base) F_show_range (g "show_range") gNONE gANY h_showSp
  obtain ⟨_, F_is_name⟩ := c.defs (d := dO "is_name" 29) (by simp [fns])
  have h_isName := ok_isName (P := P) (w := w) (mg := mg) (base := base) F_is_name (g "is_name") (n "isinstance") (n "str") (n "len") (n "all") gLETTERS
  obtain ⟨_, F_is_path⟩ := c.defs (d := dO "is_path" 30) (by simp [fns])
  have h_isPath := ok_isPath (P := P) (w := w) (mg := mg) (base := base) F_is_path (g "is_path") (n "isinstance") (n "str") (n "len") (n "all") gLETTERS (He.int_ok X G (f_of c 68 (f := .int "LONGEST_PATH" 20)))
  obtain ⟨_, F_is_text⟩ := c.defs (d := dO "is_text" 31) (by simp [fns])
  have h_isText := ok_isText (P := P) (w := w) (mg := mg) (base := base) F_is_text (g "is_text") (n "isinstance") (n "str") (n "len") (n "all") (n "ord") (He.int_ok X G (f_of c 69 (f := .int "LONGEST_TEXT" 200)))
  obtain ⟨_, F_is_rising⟩ := c.defs (d := dO "is_rising" 38) (by simp [fns])
  have h_rising := ok_rising (P := P) (w := w) (mg := mg) (base := base) F_is_rising (g "is_rising") (n "all") (n "zip")
  obtain ⟨_, F_are_extras⟩ := c.defs (d := dO "are_extras" 39) (by simp [fns])
  have h_exs := ok_exs (P := P) (w := w) (mg := mg) (base := base) F_are_extras (g "are_extras") (n "isinstance") (n "tuple") (n "len") (n "all") (He.int_ok X G (f_of c 70 (f := .int "MOST_EXTRAS" 3))) h_isName h_rising
  obtain ⟨_, F_is_need⟩ := c.defs (d := dO "is_need" 40) (by simp [fns])
  have h_isNeed := ok_isNeed (P := P) (w := w) (mg := mg) (base := base) F_is_need (g "is_need") (n "isinstance") (n "tuple") (n "len") h_isName h_isRg h_exs
  obtain ⟨_, F_are_rows_of⟩ := c.defs (d := dO "are_rows_of" 41) (by simp [fns])
  have h_rows2 := ok_rowsOf (kk := 2) (P := P) (w := w) (mg := mg) (base := base) (by decide) F_are_rows_of (g "are_rows_of") (n "isinstance") (n "tuple") (n "len") (n "all") h_rising
  have h_rows4 := ok_rowsOf (kk := 4) (P := P) (w := w) (mg := mg) (base := base) (by decide) F_are_rows_of (g "are_rows_of") (n "isinstance") (n "tuple") (n "len") (n "all") h_rising
  have h_rows7 := ok_rowsOf (kk := 7) (P := P) (w := w) (mg := mg) (base := base) (by decide) F_are_rows_of (g "are_rows_of") (n "isinstance") (n "tuple") (n "len") (n "all") h_rising
  obtain ⟨_, F_are_needs⟩ := c.defs (d := dO "are_needs" 42) (by simp [fns])
  have h_needs := ok_needs (P := P) (w := w) (mg := mg) (base := base) F_are_needs (g "are_needs") (He.int_ok X G (f_of c 71 (f := .int "MOST_NEEDS" 5))) h_isNeed h_rows4
  obtain ⟨_, F_is_extra⟩ := c.defs (d := dO "is_extra" 43) (by simp [fns])
  have h_isExtra := ok_isExtra (P := P) (w := w) (mg := mg) (base := base) F_is_extra (g "is_extra") (n "isinstance") (n "tuple") (n "len") h_isName h_needs
  obtain ⟨_, F_is_file⟩ := c.defs (d := dO "is_file" 44) (by simp [fns])
  have h_isFile := ok_isFile (P := P) (w := w) (mg := mg) (base := base) F_is_file (g "is_file") (n "isinstance") (n "tuple") (n "len") h_isPath h_isText
  obtain ⟨_, F_is_step⟩ := c.defs (d := dO "is_step" 32) (by simp [fns])
  have h_isStep := ok_isStep (P := P) (w := w) (mg := mg) (base := base) F_is_step (g "is_step") (n "isinstance") (n "tuple") (n "str") (n "len") (n "all") gSIZES h_isName h_isPath h_isText
  obtain ⟨_, F_is_ware⟩ := c.defs (d := dO "is_ware" 45) (by simp [fns])
  have h_isWare := ok_isWare (P := P) (w := w) (mg := mg) (base := base) F_is_ware (g "is_ware") (n "isinstance") (n "tuple") (n "len") (n "all") (He.int_ok X G (f_of c 70 (f := .int "MOST_EXTRAS" 3))) (He.int_ok X G (f_of c 72 (f := .int "MOST_FILES" 6))) (He.int_ok X G (f_of c 73 (f := .int "MOST_STEPS" 8))) h_isName h_isEd h_needs h_isExtra h_isFile h_isStep h_rows7 h_rows2
  obtain ⟨_, F_show_names⟩ := c.defs (d := dO "show_names" 47) (by simp [fns])
  have h_names := ok_names (P := P) (w := w) (mg := mg) (base := base) F_show_names (g "show_names") (n "list")
  obtain ⟨_, F_show_need⟩ := c.defs (d := dO "show_need" 48) (by simp [fns])
  have h_showNd := ok_showNd (P := P) (w := w) (mg := mg) (base := base) F_show_need (g "show_need") h_names h_showRg
  obtain ⟨_, F_show_step⟩ := c.defs (d := dO "show_step" 50) (by simp [fns])
  have h_showSt := ok_showSt (P := P) (w := w) (mg := mg) (base := base) F_show_step (g "show_step") hFolded
  obtain ⟨_, F_show_ware⟩ := c.defs (d := dO "show_ware" 51) (by simp [fns])
  have h_showWa := ok_showWa (P := P) (w := w) (mg := mg) (base := base) F_show_ware (g "show_ware") hFolded h_showEd h_showNd h_showSt
  obtain ⟨_, F_show_entry⟩ := c.defs (d := dO "show_entry" 52) (by simp [fns])
  have h_showEn := ok_showEn (P := P) (w := w) (mg := mg) (base := base) F_show_entry (g "show_entry") hFolded h_showWa h_showRg
  obtain ⟨_, F_mark⟩ := c.defs (d := dO "mark" 57) (by simp [fns])
  have h_mark := ok_mark (P := P) (w := w) (mg := mg) (base := base) F_mark (g "mark") (He.int_ok X G (f_of c 76 (f := .int "BEGIN" 7))) (He.int_ok X G (f_of c 75 (f := .int "BASE" 1000003))) (He.int_ok X G (f_of c 74 (f := .int "MODULUS" 2305843009213693951))) (n "ord")
  obtain ⟨_, F_chain_of⟩ := c.defs (d := dO "chain_of" 59) (by simp [fns])
  have h_chain := ok_chain (P := P) (w := w) (mg := mg) (base := base) F_chain_of (g "chain_of") h_mark h_showEn
  obtain ⟨_, F_parting⟩ := c.defs (d := dO "parting" 66) (by simp [fns])
  have h_part := ok_part (P := P) (w := w) (mg := mg) (base := base) F_parting (g "parting") (n "enumerate") (n "zip")
  have h_wares := ok_wares (P := P) (w := w) (mg := mg) (base := base) F_wares_of (g "wares_of") (n "sorted") TB hc
  obtain ⟨_, F__law_deck⟩ := c.defs (d := dO "_law_deck" 69) (by simp [fns])
  have h_deck := ok_deck (P := P) (w := w) (mg := mg) (base := base) F__law_deck (g "_law_deck")
  obtain ⟨_, F__law_pick⟩ := c.defs (d := dO "_law_pick" 70) (by simp [fns])
  have h_pick := ok_pick (P := P) (w := w) (mg := mg) (base := base) F__law_pick (g "_law_pick")
  obtain ⟨_, F__law_one⟩ := c.defs (d := dO "_law_one" 79) (by simp [fns])
  have h_one := ok_one (P := P) (w := w) (mg := mg) (base := base) F__law_one (g "_law_one") (n "len") h_pick
  obtain ⟨_, F__law_some_names⟩ := c.defs (d := dO "_law_some_names" 80) (by simp [fns])
  have h_someN := ok_someN (P := P) (w := w) (mg := mg) (base := base) F__law_some_names (g "_law_some_names") h_pick
  obtain ⟨_, F__law_edition⟩ := c.defs (d := dO "_law_edition" 71) (by simp [fns])
  have h_lawEd := ok_lawEd (P := P) (w := w) (mg := mg) (base := base) F__law_edition (g "_law_edition") h_pick
  obtain ⟨_, F__law_place⟩ := c.defs (d := dO "_law_place" 72) (by simp [fns])
  have h_lawPlace := ok_lawPlace (P := P) (w := w) (mg := mg) (base := base) F__law_place (g "_law_place")
  obtain ⟨_, F__law_at⟩ := c.defs (d := dO "_law_at" 73) (by simp [fns])
  have h_lawAt := ok_lawAt (P := P) (w := w) (mg := mg) (base := base) F__law_at (g "_law_at")
  obtain ⟨_, F__law_joined⟩ := c.defs (d := dO "_law_joined" 74) (by simp [fns])
  have h_joined := ok_joined (P := P) (w := w) (mg := mg) (base := base) F__law_joined (g "_law_joined") (n "sorted") (n "max") (n "tuple") h_lawAt
  obtain ⟨_, F__law_span⟩ := c.defs (d := dO "_law_span" 75) (by simp [fns])
  have h_lawSpan := ok_lawSpan (P := P) (w := w) (mg := mg) (base := base) F__law_span (g "_law_span") (n "sorted") (n "min") h_pick h_lawEd h_lawPlace h_lawAt h_joined
  obtain ⟨_, F__law_need⟩ := c.defs (d := dO "_law_need" 76) (by simp [fns])
  have h_lawNeed := ok_lawNeed (P := P) (w := w) (mg := mg) (base := base) F__law_need (g "_law_need") (n "tuple") h_pick h_lawSpan
  obtain ⟨_, F__law_needs⟩ := c.defs (d := dO "_law_needs" 77) (by simp [fns])
  have h_lawNeeds := ok_lawNeeds (P := P) (w := w) (mg := mg) (base := base) F__law_needs (g "_law_needs") (n "tuple") (n "range") (n "len") (n "sorted") h_pick h_lawNeed
  obtain ⟨_, F__law_ware⟩ := c.defs (d := dO "_law_ware" 78) (by simp [fns])
  have h_lawWare := ok_lawWare (P := P) (w := w) (mg := mg) (base := base) F__law_ware (g "_law_ware") (n "tuple") (n "str") h_pick h_lawNeeds
  obtain ⟨_, F__law_first_unlike⟩ := c.defs (d := dO "_law_first_unlike" 83) (by simp [fns])
  have h_first := ok_first (P := P) (w := w) (mg := mg) (base := base) F__law_first_unlike (g "_law_first_unlike") (n "range") (n "min") (n "len")
  obtain ⟨_, F__law_chain⟩ := c.defs (d := dO "_law_chain" 84) (by simp [fns])
  have h_lawCh := ok_lawCh (P := P) (w := w) (mg := mg) (base := base) F__law_chain (g "_law_chain") (n "str") h_mark h_showEn
  obtain ⟨_, F__law_apart⟩ := c.defs (d := dO "_law_apart" 85) (by simp [fns])
  have h_apart := ok_apart (P := P) (w := w) (mg := mg) (base := base) F__law_apart (g "_law_apart") (n "range") (n "min") (n "len") h_lawCh
  obtain ⟨_, F__law_entries⟩ := c.defs (d := dO "_law_entries" 81) (by simp [fns])
  have h_lawEnts := ok_lawEnts (P := P) (w := w) (mg := mg) (base := base) F__law_entries (g "_law_entries") (n "range") (n "str") h_pick h_one h_lawSpan h_lawWare
  obtain ⟨_, F__law_fork⟩ := c.defs (d := dO "_law_fork" 82) (by simp [fns])
  have h_fork := ok_fork (P := P) (w := w) (mg := mg) (base := base) F__law_fork (g "_law_fork") (n "len") gANY h_pick
  have clR : Cls K (He.ga K "Registry") := He.cls_ok (f_of c 77 (f := .cls "Registry"))
  have clM : Cls K (He.ga K "Mirror") := He.cls_ok (f_of c 78 (f := .cls "Mirror"))
  have nR : NoAttr K (He.ga K "Registry") "rows" := He.noat_ok (f_of c 79 (f := .noat "Registry" "rows"))
  have nM : NoAttr K (He.ga K "Mirror") "rows" := He.noat_ok (f_of c 80 (f := .noat "Mirror" "rows"))
  have nF := He.noat_ok (f_of c 81 (f := .noat "Forked" "at"))
  have mPut := He.meth_ok (f_of c 82 (f := .meth "Registry" "put"))
  have mWarn := He.meth_ok (f_of c 83 (f := .meth "Registry" "warn"))
  have mREn := He.meth_ok (f_of c 84 (f := .meth "Registry" "entries"))
  have mRCh := He.meth_ok (f_of c 85 (f := .meth "Registry" "chain"))
  have mTake := He.meth_ok (f_of c 86 (f := .meth "Mirror" "take"))
  have mMEn := He.meth_ok (f_of c 87 (f := .meth "Mirror" "entries"))
  have mMCh := He.meth_ok (f_of c 88 (f := .meth "Mirror" "chain"))
  have kR := He.mkr_ok (f_of c 89 (f := .mkr "Registry"))
  have kM := He.mkr_ok (f_of c 90 (f := .mkr "Mirror"))
  have eF := He.exm_ok (f_of c 91 (f := .exm "Forked" "Forked" true))
  obtain ⟨_, M1⟩ := c.defs (d := dM "Registry" "put" "Registry.put" 63 3) (by simp [fns])
  obtain ⟨_, M2⟩ := c.defs (d := dM "Registry" "warn" "Registry.warn" 63 7) (by simp [fns])
  obtain ⟨_, M3⟩ := c.defs (d := dM "Registry" "entries" "Registry.entries" 63 8) (by simp [fns])
  obtain ⟨_, M4⟩ := c.defs (d := dM "Registry" "chain" "Registry.chain" 63 9) (by simp [fns])
  obtain ⟨_, M5⟩ := c.defs (d := dM "Mirror" "__init__" "Mirror.__init__" 67 0) (by simp [fns])
  obtain ⟨_, M6⟩ := c.defs (d := dM "Mirror" "entries" "Mirror.entries" 67 4) (by simp [fns])
  obtain ⟨_, M7⟩ := c.defs (d := dM "Mirror" "chain" "Mirror.chain" 67 5) (by simp [fns])
  obtain ⟨_, M8⟩ := c.defs (d := dM "Forked" "__init__" "Forked.__init__" 9 0) (by simp [fns])
  obtain ⟨_, M9⟩ := c.defs (d := dRI) (by simp [fns])
  obtain ⟨_, M10⟩ := c.defs (d := dMT) (by simp [fns])
  have h_put := ok_put (P := P) (w := w) (mg := mg) (base := base) M1 mPut clR nR (n "len") h_isWare h_wares
  have h_warn := ok_warn (P := P) (w := w) (mg := mg) (base := base) M2 mWarn clR nR (n "len") h_isName h_isRg h_isText
  have h_ri := ok_regInit (P := P) (w := w) (mg := mg) (base := base) (v0 := .ref (kwAd K)) M9 (g "Registry") kR clR nR h_put h_warn
  have h_mi := ok_mirInit (P := P) (w := w) (mg := mg) (base := base) M5 (g "Mirror") kM clM nM
  have h_er := ok_ents (P := P) (w := w) (mg := mg) (base := base) M3 (.inl rfl) mREn clR nR (n "list")
  have h_em := ok_ents (P := P) (w := w) (mg := mg) (base := base) M6 (.inr rfl) mMEn clM nM (n "list")
  have h_cr := ok_selfCh (P := P) (w := w) (mg := mg) (base := base) M4 (.inl rfl) mRCh clR nR h_chain
  have h_cm := ok_selfCh (P := P) (w := w) (mg := mg) (base := base) M7 (.inr rfl) mMCh clM nM h_chain
  have h_fk := ok_forked (P := P) (w := w) (mg := mg) (base := base) M8 (g "Forked") (g "YardError") u1 u2 u3 (oexB_ok y1) nF (He.eqO_ok y2) (of_decide_eq_true y3)
  have h_tk := ok_take (P := P) (w := w) (mg := mg) (base := base) (v0 := .int 1000) M10 mTake clM nM clR (n "len") h_cm h_cr h_er h_part h_fk
  exact ok_law FL clR clM (n "tuple") (n "len") (g "Forked") (L2.xfB_ok y4) nF eF h_deck h_pick h_someN h_lawEnts h_fork h_apart h_ri h_first h_part h_cr h_mi h_tk h_em
end
end Wy
set_option Elab.async false
set_option linter.all false
set_option maxRecDepth 100000
set_option maxHeartbeats 0
namespace Wy
open PySem PySem.Spec PyProof.Rows L2 Ab
theorem ints_rps {g : Gd} {M : Hp} {ρ : List Addr} : ∀ ns : List Int, Rps g M ρ (ns.map V.int) (ns.map D.int)
  | [] => .nil
  | i :: ns => .cons (.int i) (ints_rps ns)
/-- the heap but for the table -/
def offT (T : Addr) (H : Hp) : Hp := fun b => if b = T then none else H b
theorem offT_same {T : Addr} {H : Hp} : offT T H T = none := if_pos rfl
theorem offT_ne {T b : Addr} {H : Hp} (h : b ≠ T) : offT T H b = H b := if_neg h
theorem end_sp {P : Program} {w : World} {K : PySem.W.Frag} {H : Hp} {a T : Addr} {ns : List Int} (hl : ns.length ≤ 63) (hT : H T = some (.tbl #[])) (hS : SqL K H a (ns.map V.int)) : spOf ⟨P, w, K⟩ (cLaw T) [.ref a] H (fun v _ => v = .bl true) fun _ _ _ => False := by
  have hne : ∀ (b : Addr) (o : HO), H b = some o → o ≠ .tbl #[] → b ≠ T := fun b o e q z => by
    subst z
    rw [hT] at e
    exact q (Option.some.inj e).symm
  have hS' : SqL K (offT T H) a (ns.map V.int) := by
    rcases hS with r | r
    · left
      rcases r with r | ⟨o, r⟩
      · exact .inl ((offT_ne (hne _ _ r (by intro z; cases z))).trans r)
      · exact .inr ⟨o, (offT_ne (hne _ _ r (by intro z; cases z))).trans r⟩
    · exact .inr r
  refine ⟨[.lst (ns.map D.int)], [tbC T], [T], offT T H, fun d _ => d = .bl true, fun _ _ => False, ⟨rfl, fun b o e => ?_, fun l c a' h h2 => ?_, fun a' h => ?_, fun l l' c c' a' h h' _ _ _ _ => ?_⟩, .cons (.lst hS' (ints_rps ns)) .nil, ⟨ns, rfl, hl, rfl, fun _ => rfl⟩, ?_, ?_⟩
  · by_cases z : b = T
    · subst z
      rw [offT_same] at e
      cases e
    · rwa [offT_ne z] at e
  · cases l with
    | zero =>
      obtain rfl : tbC T = c := Option.some.inj h
      obtain rfl : T = a' := Option.some.inj h2
      exact .tbl rfl hT (by simp [TriplesOk]) fun pos cv z => by simp [codeAmong] at z
    | succ l => cases l <;> cases h
  · obtain ⟨l, c, h1, _, h3⟩ := h
    cases l with
    | zero =>
      obtain rfl : T = a' := Option.some.inj h3
      exact offT_same
    | succ l => cases l <;> cases h1
  · cases l with
    | zero =>
      cases l' with
      | zero => rfl
      | succ l' => cases l' <;> cases h'
    | succ l => cases l <;> cases h
  · rintro d S' v ρ' M' H' rfl _ _ r
    cases r
    rfl
  · intro x S' ρ' M' H' od h
    exact h.elim
/-- the code and the table of wares_of -/
theorem wares_code {K : PySem.W.Frag} {st : Stmt} {fd : FuncData} (F : FnP K "wares_of" st (He.fAd K ("wares_of", none)) fd) : fd.code = .ref (He.codeOf K ("wares_of", none)) := by
  obtain ⟨oc, od, dV, kV, doc, pm, an, cdv, ct, osl, rfl, lk, hcd, _, _⟩ := F.ex
  obtain ⟨c, e⟩ := He.codeIn_ref hcd
  subst e
  rw [He.codeOf_eq lk rfl]
end Wy
open PySem PySem.W PySem.Calls PyProof.Rows
theorem PySem.Challenge.cw_wareyard_k83_whole_registries_that_part_holds : PySem.Challenge.rw_wareyard_k83_whole_registries_that_part.Holds := by
  w_on; o_law
  refine HandSHeadRun.head_any (r := Wy.R) (q := Wy.qR) (H := Wy.hkX) (ob := Wy.obX) (M := 9000) (loose := Wy.looseN) (d := HandSHeadRun.topDef Wy.R.prog 86) (kwd := []) Wy.obX_eq
    (by kernel_rfl) (fun s => by kernel_rfl) Wy.runX (by kernel_rfl) (by kernel_rfl) (by kernel_rfl) (by rfl) (by first | assumption | decide +kernel) (by decide +kernel) ⟨rfl, rfl, rfl, rfl, rfl, by decide +kernel⟩ ?hw ?hc
  case hw => w_witness2
  case hc =>
    refine LamX.walk_ofTsE (l := PySem.Challenge.rw_wareyard_k83_whole_registries_that_part) (n := 63) (k := 13) (x := "script") (CX := fun w => L2.CX (PySem.Challenge.rw_wareyard_k83_whole_registries_that_part).prog w) rfl (by decide) (by kernel_rfl) ⟨rfl, by decide, by decide⟩ ?F (fun _ _ _ _ _ z => by
      obtain ⟨_, _, _, _, _, _, _, _, _, _, _, _, z⟩ := z
      exact z)
    intro w mg fa h Y G hmg0
    obtain ⟨K, KX, c⟩ := Y
    have hmg : mg ("law" : PySem.Str) = some (.ref fa) := by
      have e : (HandSHeadRun.topDef Wy.R.prog 86).name = ("law" : PySem.Str) := by kernel_rfl
      rw [← e]
      exact hmg0
    have eL := hmg.symm.trans (Wy.g_of KX G c.t.d "law")
    cases eL
    obtain ⟨fL, FL⟩ := c.t.d.defs (d := Wy.dO "law" 86) (by simp [Wy.fns])
    obtain ⟨fW, FW⟩ := c.t.d.defs (d := Wy.dO "wares_of" 60) (by simp [Wy.fns])
    have bL := L2.FunD.bindsA (ps := ["script"]) FL fun _ _ _ _ _ _ us hl => match us, hl with | [_], _ => rfl
    have gS : Ab.KTabI K w mg "SIZES" Wy.sizesT := by
      obtain ⟨es, n, kd⟩ := c.t.tab 0
      obtain ⟨_, cx⟩ := Bool.and_eq_true_iff.mp c.more
      obtain ⟨_, cx⟩ := Bool.and_eq_true_iff.mp cx
      obtain ⟨_, cx⟩ := Bool.and_eq_true_iff.mp cx
      obtain ⟨_, cx⟩ := Bool.and_eq_true_iff.mp cx
      obtain ⟨_, cx⟩ := Bool.and_eq_true_iff.mp cx
      obtain ⟨x6, _⟩ := Bool.and_eq_true_iff.mp cx
      exact ⟨_, es, n, Wy.g_of KX G c.t.d "SIZES", kd, Wy.szB_ok x6⟩
    have one : ∀ {Q : Addr × Addr → Prop}, Q (He.cT K ("wares_of", none)) → ∀ p ∈ [He.cT K ("wares_of", none)], Q p := fun q p hp => by
      obtain rfl := List.mem_singleton.mp hp
      exact q
    have mem : (("wares_of", none) : He.Defn) ∈ Wy.dfs := List.mem_singleton.mpr rfl
    refine ⟨K, KX, fL, [He.cT K ("wares_of", none)], _, one (c.empty _ mem), one (c.out _ mem), one (PySem.W.codeHd_of_K KX (c.hd _ mem)), fun s v => bL s [v] rfl, fun H a ns hl _ hT hS => Wy.end_sp (P := (PySem.Challenge.rw_wareyard_k83_whole_registries_that_part).prog) (w := w) hl (hT _ (List.mem_singleton.mpr rfl)) hS, fun base _ _ TB => ?_⟩
    exact Wy.facts KX G c.t.d gS c.more FL (TB _ (List.mem_singleton.mpr rfl)) FW (Wy.wares_code (st := Wy.s_wares_of) FW)
