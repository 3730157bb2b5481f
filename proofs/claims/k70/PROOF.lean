import PyProof.Rows.All
import Wide.All
import OpenK.AllK
import Wide.FinOn
import HandS.AnyAll
import HandS.CallSlots
import HandS.Conv
import HandS.Dict
import HandS.EndTab
import HandS.ForExc
import HandS.ForMost
import HandS.GenList
import HandS.IsInst
import HandS.Iter
import HandS.Lambda
import HandS.More
import HandS.Rev
import HandS.RevTup
import HandS.Small
import HandS.Sort
import HandS.SortInts
import HandS.SortKw
import HandS.SortRule
import HandS.Star
import HandS.Style
import HandS.TupAny
import HandS.TupLe
import HandS.Wide
import HandS.WordsDict
import KE.GoesMore
import KE.SortKeyHeap
import PyProof.EnumMake
import PyProof.Rows.CallKwBuiltin
import PyProof.Rows.SeqGen
import PyProof.WalkInts
import PySem.Challenge.RW_factorsagree_k70_whole_papers_of_peaks
set_option Elab.async false
set_option linter.all false
set_option maxRecDepth 100000
/-! DenA: data over the heap, the state of a def as data, what ties both -/
namespace Den
open PySem PySem.Spec PyProof.Rows L2

abbrev D := PyData
/-- the law's script: read, never written -/
abbrev scriptD (es : List D) : D := .dict [(.none, .list es)]
/-- what stands in a slot: plain data; an object of this frame's own; an object that was lent -/
inductive SV where
  | dat (d : D) | own (d : D) | lent (d : D)
/-- a value: plain data; a new object; the object of a slot -/
inductive R where
  | dat (d : D) | new (d : D) | at (i : Nat)
abbrev DS := List (Option SV)
def SV.d : SV → D
  | .dat d => d
  | .own d => d
  | .lent d => d

def kD : Key → D
  | .inl i => .int i
  | .inr x => .str x

mutual
inductive Rep (K : PySem.W.Frag) (H : Hp) : V → D → Prop
  | non : Rep K H .non .none
  | bl (b : Bool) : Rep K H (.bl b) (.bool b)
  | int (i : Int) : Rep K H (.int i) (.int i)
  | str (x : Str) : Rep K H (.str x) (.str x)
  | lst {a : Addr} {xs : List V} {ds : List D} : H a = some (.lst xs) → RepAll K H xs ds → Rep K H (.ref a) (.list ds)
  | scr {a : Addr} {xs : List V} {ds : List D} : SqL K H a xs → RepAll K H xs ds → Rep K H (.ref a) (.dict [(.none, .list ds)])
  | tup {a : Addr} {xs : List V} {ds : List D} : SqT K H a xs → RepAll K H xs ds → Rep K H (.ref a) (.tuple ds)
  | dic {a : Addr} {ks : List (Key × V)} {kvs : List (D × D)} : H a = some (.dK ks) → RepK K H ks kvs → Rep K H (.ref a) (.dict kvs)
inductive RepAll (K : PySem.W.Frag) (H : Hp) : List V → List D → Prop
  | nil : RepAll K H [] []
  | cons {v : V} {vs : List V} {d : D} {ds : List D} : Rep K H v d → RepAll K H vs ds → RepAll K H (v :: vs) (d :: ds)
inductive RepK (K : PySem.W.Frag) (H : Hp) : List (Key × V) → List (D × D) → Prop
  | nil : RepK K H [] []
  | cons {k : Key} {v : V} {vs : List (Key × V)} {d : D} {ds : List (D × D)} : Rep K H v d → RepK K H vs ds → RepK K H ((k, v) :: vs) ((kD k, d) :: ds)
end

section
variable {K : PySem.W.Frag} {H H' : Hp}
theorem Same.seqT {a : Addr} {xs : List V} (e : Same H H') (h : SqT K H a xs) : SqT K H' a xs := by
  rcases h with (h | ⟨o, h⟩) | h
  · exact .inl (.inl (e _ _ h))
  · exact .inl (.inr ⟨o, e _ _ h⟩)
  · exact .inr h
mutual
theorem Rep.mono (s : Same H H') : ∀ {v : V} {d : D}, Rep K H v d → Rep K H' v d
  | _, _, .non => .non
  | _, _, .bl b => .bl b
  | _, _, .int i => .int i
  | _, _, .str x => .str x
  | _, _, .lst h r => .lst (s _ _ h) (RepAll.mono s r)
  | _, _, .scr h r => .scr (s.seq h) (RepAll.mono s r)
  | _, _, .tup h r => .tup (Same.seqT s h) (RepAll.mono s r)
  | _, _, .dic h r => .dic (s _ _ h) (RepK.mono s r)
theorem RepAll.mono (s : Same H H') : ∀ {v : List V} {d : List D}, RepAll K H v d → RepAll K H' v d
  | _, _, .nil => .nil
  | _, _, .cons h r => .cons (Rep.mono s h) (RepAll.mono s r)
theorem RepK.mono (s : Same H H') : ∀ {v : List (Key × V)} {d : List (D × D)}, RepK K H v d → RepK K H' v d
  | _, _, .nil => .nil
  | _, _, .cons h r => .cons (Rep.mono s h) (RepK.mono s r)
end
theorem RepAll.length : ∀ {v : List V} {d : List D}, RepAll K H v d → v.length = d.length
  | _, _, .nil => rfl
  | _, _, .cons _ r => congrArg (· + 1) (RepAll.length r)
theorem RepAll.get : ∀ {v : List V} {d : List D} {i : Nat} {x : D}, RepAll K H v d → d[i]? = some x → ∃ u, v[i]? = some u ∧ Rep K H u x
  | _, _, i, x, .nil, e => by simp at e
  | _, _, 0, x, .cons h r, e => by simp at e; subst e; exact ⟨_, rfl, h⟩
  | _, _, i + 1, x, .cons h r, e => by
    obtain ⟨u, h1, h2⟩ := RepAll.get (i := i) (x := x) r (by simpa using e)
    exact ⟨u, by simpa using h1, h2⟩
theorem RepAll.get' {v : List V} {d : List D} {i : Nat} {u : V} (h : RepAll K H v d) (e : v[i]? = some u) : ∃ x, d[i]? = some x ∧ Rep K H u x := by
  have hl := h.length
  have hi : i < d.length := by
    obtain ⟨h1, _⟩ := List.getElem?_eq_some_iff.mp e
    omega
  obtain ⟨u', h1, h2⟩ := h.get (List.getElem?_eq_getElem hi)
  rw [e] at h1; cases h1
  exact ⟨_, List.getElem?_eq_getElem hi, h2⟩
theorem RepAll.append : ∀ {v w : List V} {d e : List D}, RepAll K H v d → RepAll K H w e → RepAll K H (v ++ w) (d ++ e)
  | _, _, _, _, .nil, s => s
  | _, _, _, _, .cons h r, s => .cons h (RepAll.append r s)
theorem RepAll.take : ∀ {v : List V} {d : List D} (n : Nat), RepAll K H v d → RepAll K H (v.take n) (d.take n)
  | _, _, 0, _ => by simp; exact .nil
  | _, _, _ + 1, .nil => .nil
  | _, _, n + 1, .cons h r => .cons h (RepAll.take n r)
theorem RepAll.drop : ∀ {v : List V} {d : List D} (n : Nat), RepAll K H v d → RepAll K H (v.drop n) (d.drop n)
  | _, _, 0, r => r
  | _, _, _ + 1, .nil => .nil
  | _, _, n + 1, .cons h r => RepAll.drop n r
theorem RepAll.reverse : ∀ {v : List V} {d : List D}, RepAll K H v d → RepAll K H v.reverse d.reverse
  | _, _, .nil => .nil
  | _, _, .cons h r => by
    rw [List.reverse_cons, List.reverse_cons]
    exact (RepAll.reverse r).append (.cons h .nil)
theorem RepAll.set {x : V} {y : D} (hx : Rep K H x y) : ∀ {v : List V} {d : List D} (n : Nat), RepAll K H v d → RepAll K H (v.set n x) (d.set n y)
  | _, _, _, .nil => .nil
  | _, _, 0, .cons _ r => .cons hx r
  | _, _, n + 1, .cons h r => .cons h (RepAll.set hx n r)
theorem RepAll.eraseIdx : ∀ {v : List V} {d : List D} (n : Nat), RepAll K H v d → RepAll K H (v.eraseIdx n) (d.eraseIdx n)
  | _, _, _, .nil => .nil
  | _, _, 0, .cons _ r => r
  | _, _, n + 1, .cons h r => .cons h (RepAll.eraseIdx n r)
theorem RepAll.dropLast : ∀ {v : List V} {d : List D}, RepAll K H v d → RepAll K H v.dropLast d.dropLast
  | _, _, .nil => .nil
  | _, _, .cons _ .nil => .nil
  | _, _, .cons h (.cons h2 r) => .cons h (RepAll.dropLast (.cons h2 r))
theorem RepAll.of : ∀ {v : List V} {d : List D}, v.length = d.length → (∀ (i : Nat) (x : V) (y : D), v[i]? = some x → d[i]? = some y → Rep K H x y) → RepAll K H v d
  | [], [], _, _ => .nil
  | [], _ :: _, e, _ => by simp at e
  | _ :: _, [], e, _ => by simp at e
  | x :: v, y :: d, e, h => .cons (h 0 x y rfl rfl) (RepAll.of (by simpa using e) fun i x' y' h1 h2 => h (i + 1) x' y' (by simpa using h1) (by simpa using h2))
/-- whole numbers -/
theorem RepAll.ints : ∀ (ns : List Int), RepAll K H (ns.map V.int) (ns.map PyData.int)
  | [] => .nil
  | n :: r => .cons (.int n) (RepAll.ints r)
mutual
theorem Rep.dp : ∀ {v : V} {d : D}, Rep K H v d → d.canLay0 = true → Dp K H v d
  | _, _, .non, _ => .non
  | _, _, .bl b, _ => .bl b
  | _, _, .int i, _ => .int i
  | _, _, .str x, _ => .str x
  | _, .list ds, .lst h r, e => .lst (SqL.of h) (RepAll.dp r (by simpa [PyData.canLay0] using e))
  | _, .tuple ds, .tup h r, e => .tup h (RepAll.dp r (by simpa [PyData.canLay0] using e))
  | _, _, .dic h r, e => by simp [PyData.canLay0] at e
  | _, _, .scr h r, e => by simp [PyData.canLay0] at e
theorem RepAll.dp : ∀ {v : List V} {d : List D}, RepAll K H v d → PyData.canLayAll0 d = true → DpAll K H v d
  | _, _, .nil, _ => .nil
  | _, _, .cons h r, e => by
    have e' := Bool.and_eq_true_iff.mp (by simpa only [PyData.canLayAll0] using e)
    exact .cons (Rep.dp h e'.1) (RepAll.dp r e'.2)
end
end
end Den
/-! DenB: the monad of readings; Rel, and how it moves -/
namespace Den
open PySem PySem.Spec PyProof.Rows L2

inductive Res (α : Type) where
  | ok (a : α) (s : DS)
  | err (c : String) (s : DS)
def M (α : Type) := DS → Option (Res α)
def M.bind {α β : Type} (m : M α) (k : α → M β) : M β := fun s => match m s with
  | none => none
  | some (.ok a s') => k a s'
  | some (.err c s') => some (.err c s')
instance : Monad M where
  pure a := fun s => some (.ok a s)
  bind := M.bind
def fail {α : Type} : M α := fun _ => none
def Post {α : Type} (o : Option (Res α)) (P : α → DS → Prop) (E : String → DS → Prop) : Prop := match o with
  | none => False
  | some (.ok a s) => P a s
  | some (.err c s) => E c s
theorem Post.bind {α β : Type} {m : M α} {k : α → M β} {s : DS} {P : β → DS → Prop} {E : String → DS → Prop} :
    Post ((m >>= k) s) P E ↔ Post (m s) (fun a s' => Post (k a s') P E) E := by
  show Post (M.bind m k s) P E ↔ _
  unfold M.bind
  cases m s with
  | none => exact Iff.rfl
  | some r => cases r <;> exact Iff.rfl
theorem Post.mono {α : Type} {o : Option (Res α)} {P P' : α → DS → Prop} {E E' : String → DS → Prop} (h : Post o P E) (hp : ∀ a s, P a s → P' a s) (he : ∀ c s, E c s → E' c s) : Post o P' E' := by
  cases o with
  | none => exact h
  | some r => cases r with
    | ok a s => exact hp a s h
    | err c s => exact he c s h
theorem Post.pure {α : Type} {a : α} {s : DS} {P : α → DS → Prop} {E : String → DS → Prop} : Post ((pure a : M α) s) P E ↔ P a s := Iff.rfl

/-! ### what ties the data to the heap -/
/-- a def's activation: the written part, what is not seen here, what was seen at the entry, the lent objects by slot, the tables of code, the errors' classes -/
structure Gh where
  K : PySem.W.Frag
  F : Hp
  V : Hp
  B : Nat → Option Addr
  T : List (Addr × Option Str)
  cls : String → Option Value
def RepTop (K : PySem.W.Frag) (H Hd : Hp) (a : Addr) : D → Prop
  | .list ds => ∃ xs, H a = some (.lst xs) ∧ RepAll K Hd xs ds
  | .dict kvs => ∃ ks, H a = some (.dK ks) ∧ RepK K Hd ks kvs
  | _ => False
/-- an object of ours -/
def Own (G : Gh) (H Hd : Hp) (p : Addr) (d : D) : Prop := RepTop G.K H Hd p d ∧ Hd p = none ∧ G.F p = none
def RepS (G : Gh) (H Hd : Hp) : SV → V → Prop
  | .dat d, v => Rep G.K Hd v d
  | .own d, v => ∃ p, v = .ref p ∧ Own G H Hd p d
  | .lent d, v => ∃ p, v = .ref p ∧ Own G H Hd p d
def RepR (G : Gh) (H Hd : Hp) (ds : DS) (σ : L2.St) : R → V → Prop
  | .dat d, v => Rep G.K Hd v d
  | .new d, v => ∃ p, v = .ref p ∧ Own G H Hd p d
  | .at i, v => σ[i]? = some (some v) ∧ ∃ sv, ds[i]? = some (some sv)
def isOwn : SV → Bool
  | .dat _ => false
  | _ => true
/-- slot i owns p -/
def OwnsS (ds : DS) (σ : L2.St) (i : Nat) (p : Addr) : Prop := (∃ sv, ds[i]? = some (some sv) ∧ isOwn sv = true) ∧ σ[i]? = some (some (.ref p))
def newAddr : R × V → Option Addr
  | (.new _, .ref p) => some p
  | _ => none
def ownT (ts : List (R × V)) : List Addr := ts.filterMap newAddr
/-- a table of code objects; all of one name, if it is told -/
def TabN (H : Hp) (p : Addr × Option Str) : Prop := match p.2 with
  | none => GxR.TabG H p.1
  | some q => LamX.TabS H p.1 q
theorem TabN.tbl {H : Hp} {p : Addr × Option Str} (h : TabN H p) : ∃ ps, H p.1 = some (.tbl ps) := by
  obtain ⟨P, n⟩ := p
  cases n with
  | none => obtain ⟨ps, e, _⟩ := h; exact ⟨ps, e⟩
  | some q => obtain ⟨ps, e, _⟩ := h; exact ⟨ps, e⟩
theorem TabN.keep {H H' : Hp} {p : Addr × Option Str} (h : TabN H p) (e : H' p.1 = H p.1) (k : ∀ c φ, H c = some (.ext φ) → H' c = some (.ext φ)) : TabN H' p := by
  obtain ⟨P, n⟩ := p
  cases n with
  | none => obtain ⟨ps, e1, e2⟩ := h; exact ⟨ps, e.trans e1, e2⟩
  | some q => obtain ⟨ps, e1, e2, e3⟩ := h; exact ⟨ps, e.trans e1, e2, fun pos cv hc => let ⟨c, z1, z2⟩ := e3 pos cv hc; ⟨c, z1, k c _ z2⟩⟩
structure Rel0 (G : Gh) (Hd : Hp) (ds : DS) (ts : List (R × V)) (σ : L2.St) (H : Hp) : Prop where
  fr : ∀ a o, G.F a = some o → H a = some o ∧ Hd a = none
  vis : Same G.V Hd
  sub : Same Hd H
  sll : ds.length = σ.length
  slo : ∀ (i : Nat) (sv : SV), ds[i]? = some (some sv) → ∃ v, σ[i]? = some (some v) ∧ RepS G H Hd sv v
  bor : ∀ (i : Nat) (p : Addr), G.B i = some p → (∃ d, ds[i]? = some (some (.lent d))) ∧ σ[i]? = some (some (.ref p))
  tmp : ∀ p ∈ ts, RepR G H Hd ds σ p.1 p.2
  dSS : ∀ (i j : Nat) (p : Addr), OwnsS ds σ i p → OwnsS ds σ j p → i = j
  dST : ∀ (i : Nat) (p : Addr), OwnsS ds σ i p → p ∉ ownT ts
  dTT : (ownT ts).Nodup
  tab : ∀ P ∈ G.T, TabN H P ∧ Hd P.1 = none ∧ G.F P.1 = none
def Rel (G : Gh) (ds : DS) (ts : List (R × V)) (σ : L2.St) (H : Hp) : Prop := ∃ Hd, Rel0 G Hd ds ts σ H

theorem RepTop.some {K : PySem.W.Frag} {H Hd : Hp} {a : Addr} : ∀ {d : D}, RepTop K H Hd a d → ∃ o, H a = some o ∧ ∀ ps, o ≠ .tbl ps
  | .list _, ⟨_, h, _⟩ => ⟨_, h, fun _ z => by cases z⟩
  | .dict _, ⟨_, h, _⟩ => ⟨_, h, fun _ z => by cases z⟩
theorem RepTop.noExt {K : PySem.W.Frag} {H Hd : Hp} {a : Addr} : ∀ {d : D}, RepTop K H Hd a d → ∀ φ, H a ≠ Option.some (HO.ext φ)
  | .list _, ⟨_, h, _⟩, _, z => by rw [h] at z; cases z
  | .dict _, ⟨_, h, _⟩, _, z => by rw [h] at z; cases z
theorem RepTop.move {K : PySem.W.Frag} {H H' Hd Hd' : Hp} {a : Addr} (e : H' a = H a) (s : Same Hd Hd') : ∀ {d : D}, RepTop K H Hd a d → RepTop K H' Hd' a d
  | .list _, ⟨_, h, r⟩ => ⟨_, e.trans h, r.mono s⟩
  | .dict _, ⟨_, h, r⟩ => ⟨_, e.trans h, r.mono s⟩
theorem Own.move {G : Gh} {H H' Hd Hd' : Hp} {a : Addr} {d : D} (h : Own G H Hd a d) (e : H' a = H a) (s : Same Hd Hd') (n : Hd' a = none) : Own G H' Hd' a d := ⟨h.1.move e s, n, h.2.2⟩
/-- what stays of all owned objects -/
def KeepO (H H' Hd Hd' : Hp) (ok : Addr → Prop) : Prop := ∀ p, ok p → Hd p = none → (∃ o, H p = some o) → H' p = H p ∧ Hd' p = none
theorem Own.keep {G : Gh} {H H' Hd Hd' : Hp} {ok : Addr → Prop} {a : Addr} {d : D} (h : Own G H Hd a d) (k : KeepO H H' Hd Hd' ok) (s : Same Hd Hd') (ha : ok a) : Own G H' Hd' a d := by
  obtain ⟨o, e, _⟩ := h.1.some
  obtain ⟨e1, e2⟩ := k a ha h.2.1 ⟨o, e⟩
  exact h.move e1 s e2
theorem RepS.keep {G : Gh} {H H' Hd Hd' : Hp} {ok : Addr → Prop} (k : KeepO H H' Hd Hd' ok) (s : Same Hd Hd') : ∀ {sv : SV} {v : V}, (∀ p, isOwn sv = true → v = .ref p → ok p) → RepS G H Hd sv v → RepS G H' Hd' sv v
  | .dat _, _, _, h => Rep.mono s (show Rep G.K Hd _ _ from h)
  | .own _, _, ho, ⟨p, e, h⟩ => ⟨p, e, h.keep k s (ho p rfl e)⟩
  | .lent _, _, ho, ⟨p, e, h⟩ => ⟨p, e, h.keep k s (ho p rfl e)⟩
theorem mem_ownT {ts : List (R × V)} {d : D} {p : Addr} (h : (R.new d, V.ref p) ∈ ts) : p ∈ ownT ts := List.mem_filterMap.mpr ⟨_, h, rfl⟩
theorem of_ownT {ts : List (R × V)} {p : Addr} (h : p ∈ ownT ts) : ∃ d, (R.new d, V.ref p) ∈ ts := by
  obtain ⟨⟨r, v⟩, h1, h2⟩ := List.mem_filterMap.mp h
  cases r <;> cases v <;> simp [newAddr] at h2
  subst h2
  exact ⟨_, h1⟩

/-- the data of a value -/
def dOf (ds : DS) : R → Option D
  | .dat d => some d
  | .new d => some d
  | .at i => match ds[i]? with
    | some (some sv) => some sv.d
    | _ => none
def notAt : R → Prop
  | .at _ => False
  | _ => True
def NoAt (ts : List (R × V)) : Prop := ∀ p ∈ ts, notAt p.1

section
variable {G : Gh} {Hd : Hp} {ds : DS} {ts ts' : List (R × V)} {σ : L2.St} {H : Hp} {p a : Addr} {i k : Nat} {r : R} {v : V}

theorem Same.upd {H : Hp} {p : Addr} {o : HO} (h : H p = none) : Same H (upd H p o) := fun b u e => by
  rw [upd_ne (ne_of_none e h)]; exact e
theorem Rel0.less (h : Rel0 G Hd ds ts σ H) (s : ∀ p ∈ ts', p ∈ ts) (n : (ownT ts').Nodup) : Rel0 G Hd ds ts' σ H :=
  { h with
    tmp := fun p hp => h.tmp p (s p hp)
    dST := fun i p o m => by
      obtain ⟨d, hd⟩ := of_ownT m
      exact h.dST i p o (mem_ownT (s _ hd))
    dTT := n }
theorem Rel0.sub' (h : Rel0 G Hd ds ts σ H) (s : ts'.Sublist ts) : Rel0 G Hd ds ts' σ H := h.less (fun _ hp => s.subset hp) (h.dTT.sublist (s.filterMap _))
theorem Rel0.perm (h : Rel0 G Hd ds ts σ H) (s : ts'.Perm ts) : Rel0 G Hd ds ts' σ H := h.less (fun _ hp => s.subset hp) ((s.filterMap _).nodup_iff.mpr h.dTT)
theorem Rel0.top (h : Rel0 G Hd ds ((r, v) :: ts) σ H) : RepR G H Hd ds σ r v := h.tmp _ List.mem_cons_self
theorem Rel0.pop {q : R × V} (h : Rel0 G Hd ds (q :: ts) σ H) : Rel0 G Hd ds ts σ H := h.sub' (List.sublist_cons_self _ _)
/-- a value that is no new object -/
theorem Rel0.push (h : Rel0 G Hd ds ts σ H) (e : RepR G H Hd ds σ r v) (n : newAddr (r, v) = none) : Rel0 G Hd ds ((r, v) :: ts) σ H := by
  have o : ownT ((r, v) :: ts) = ownT ts := by unfold ownT; rw [List.filterMap_cons, n]
  exact { h with
    tmp := fun p hp => (List.mem_cons.mp hp).elim (fun z => by rw [z]; exact e) (h.tmp p)
    dST := by rw [o]; exact h.dST
    dTT := by rw [o]; exact h.dTT }
theorem Rel0.pushD (h : Rel0 G Hd ds ts σ H) {d : D} (e : Rep G.K Hd v d) : Rel0 G Hd ds ((.dat d, v) :: ts) σ H := h.push (r := .dat d) e rfl
/-- a slot read -/
def getR (i : Nat) : SV → R
  | .dat d => .dat d
  | _ => .at i
theorem Rel0.slot (h : Rel0 G Hd ds ts σ H) {sv : SV} (e : ds[i]? = some (some sv)) : ∃ v, σ[i]? = some (some v) ∧ Rel0 G Hd ds ((getR i sv, v) :: ts) σ H := by
  obtain ⟨v, h1, h2⟩ := h.slo i sv e
  refine ⟨v, h1, ?_⟩
  cases sv with
  | dat d => exact h.pushD h2
  | own d => exact h.push (r := .at i) ⟨h1, _, e⟩ rfl
  | lent d => exact h.push (r := .at i) ⟨h1, _, e⟩ rfl
theorem RepS.look {sv : SV} (s : Same Hd H) (e : RepS G H Hd sv v) : Rep G.K H v sv.d := by
  have top : ∀ {p : Addr} {d : D}, RepTop G.K H Hd p d → Rep G.K H (.ref p) d := fun {p d} z => by
    cases d with
    | list _ => obtain ⟨xs, e1, e2⟩ := z; exact .lst e1 (e2.mono s)
    | dict _ => obtain ⟨xs, e1, e2⟩ := z; exact .dic e1 (e2.mono s)
    | _ => exact z.elim
  cases sv with
  | dat d => exact Rep.mono s e
  | own d => obtain ⟨p, rfl, z, _⟩ := e; exact top z
  | lent d => obtain ⟨p, rfl, z, _⟩ := e; exact top z
/-- what a value stands for, as something in a slot -/
theorem Rel0.asS (h : Rel0 G Hd ds ts σ H) (e : RepR G H Hd ds σ r v) {d : D} (hd : dOf ds r = some d) : ∃ sv, sv.d = d ∧ RepS G H Hd sv v := by
  cases r with
  | dat d' => cases hd; exact ⟨.dat d, rfl, e⟩
  | new d' => cases hd; exact ⟨.own d, rfl, e⟩
  | «at» i =>
    obtain ⟨e1, sv, e2⟩ := e
    simp only [dOf, e2] at hd
    obtain ⟨v', h1, h2⟩ := h.slo i sv e2
    rw [e1] at h1; cases h1
    exact ⟨sv, Option.some.inj hd, h2⟩
theorem Rel0.look (h : Rel0 G Hd ds ts σ H) (e : RepR G H Hd ds σ r v) {d : D} (hd : dOf ds r = some d) : Rep G.K H v d := by
  obtain ⟨sv, rfl, z⟩ := h.asS e hd
  exact z.look h.sub
/-- the items of a list -/
theorem Rel0.list (h : Rel0 G Hd ds ts σ H) (e : RepR G H Hd ds σ r v) {es : List D} (hd : dOf ds r = some (.list es)) :
    ∃ a xs, v = .ref a ∧ H a = some (.lst xs) ∧ RepAll G.K Hd xs es := by
  obtain ⟨sv, e1, z⟩ := h.asS e hd
  cases sv with
  | dat d => cases e1; cases (show Rep G.K Hd v (.list es) from z) with | lst s q => exact ⟨_, _, rfl, h.sub _ _ s, q⟩
  | own d => cases e1; obtain ⟨p, rfl, ⟨xs, e1, e2⟩, _⟩ := z; exact ⟨p, xs, rfl, e1, e2⟩
  | lent d => cases e1; obtain ⟨p, rfl, ⟨xs, e1, e2⟩, _⟩ := z; exact ⟨p, xs, rfl, e1, e2⟩
theorem Rel0.tupRep (h : Rel0 G Hd ds ts σ H) (e : RepR G H Hd ds σ r v) {es : List D} (hd : dOf ds r = some (.tuple es)) : Rep G.K Hd v (.tuple es) := by
  obtain ⟨sv, e1, z⟩ := h.asS e hd
  cases sv with
  | dat d => cases e1; exact z
  | own d => cases e1; obtain ⟨p, rfl, z, _⟩ := z; exact z.elim
  | lent d => cases e1; obtain ⟨p, rfl, z, _⟩ := z; exact z.elim
theorem Rel0.tuple (h : Rel0 G Hd ds ts σ H) (e : RepR G H Hd ds σ r v) {es : List D} (hd : dOf ds r = some (.tuple es)) :
    ∃ a xs, v = .ref a ∧ SqT G.K H a xs ∧ RepAll G.K Hd xs es := by
  cases h.tupRep e hd with
  | tup s q => exact ⟨_, _, rfl, Same.seqT h.sub s, q⟩
theorem Rel0.notTab (h : Rel0 G Hd ds ts σ H) {o : HO} (hp : H p = some o) (ho : ∀ ps, o ≠ .tbl ps) {P : Addr × Option Str} (hP : P ∈ G.T) : P.1 ≠ p := fun e => by
  obtain ⟨ps, e1⟩ := (h.tab P hP).1.tbl
  rw [e, hp] at e1
  cases e1
  exact ho ps rfl
/-- THE MOVE: heap and what is seen change, all that is owned stays -/
theorem Rel0.move (h : Rel0 G Hd ds ts σ H) {H' Hd' : Hp} {ok : Addr → Prop} (k : KeepO H H' Hd Hd' ok) (s : Same Hd Hd') (hs : Same Hd' H') (hf : ∀ a o, G.F a = some o → H' a = some o ∧ Hd' a = none)
    (ht : ∀ P ∈ G.T, TabN H' P ∧ Hd' P.1 = none) (ho : ∀ i p, OwnsS ds σ i p → ok p) (hn : ∀ p ∈ ownT ts, ok p) : Rel0 G Hd' ds ts σ H' :=
  { h with
    fr := hf
    vis := h.vis.trans s
    sub := hs
    slo := fun i sv e => by
      obtain ⟨v, h1, h2⟩ := h.slo i sv e
      exact ⟨v, h1, h2.keep k s fun p o e' => ho i p ⟨⟨sv, e, o⟩, by rw [h1, e']⟩⟩
    tmp := fun q hq => by
      have z := h.tmp q hq
      obtain ⟨r, v⟩ := q
      cases r with
      | dat d => exact Rep.mono s z
      | new d =>
        obtain ⟨p, e, z⟩ := z
        have e : v = .ref p := e
        subst e
        exact ⟨p, rfl, z.keep k s (hn p (mem_ownT hq))⟩
      | «at» i => exact z
    tab := fun P hP => ⟨(ht P hP).1, (ht P hP).2, (h.tab P hP).2.2⟩ }
/-- a new object that is not ours -/
theorem Rel0.fresh (h : Rel0 G Hd ds ts σ H) {o : HO} (hp : H p = none) : Rel0 G Hd ds ts σ (upd H p o) :=
  have ne : ∀ {b u}, H b = some u → b ≠ p := fun e => ne_of_none e hp
  h.move (ok := fun _ => True) (fun q _ n ⟨u, e⟩ => ⟨upd_ne (ne e), n⟩) (Same.refl _) (fun b o e => by rw [upd_ne (ne (h.sub b o e))]; exact h.sub b o e)
    (fun a o e => ⟨by rw [upd_ne (ne (h.fr a o e).1)]; exact (h.fr a o e).1, (h.fr a o e).2⟩)
    (fun P hP => by
      obtain ⟨ps, e1⟩ := (h.tab P hP).1.tbl
      exact ⟨(h.tab P hP).1.keep (upd_ne (ne e1)) (fun c φ e => by rw [upd_ne (ne e)]; exact e), (h.tab P hP).2.1⟩) (fun _ _ _ => trivial) fun _ _ => trivial
theorem Rel0.hdNone (h : Rel0 G Hd ds ts σ H) (hp : H p = none) : Hd p = none := Same.free h.sub hp
theorem Rel0.fNone (h : Rel0 G Hd ds ts σ H) (hp : H p = none) : G.F p = none := by
  cases e : G.F p with
  | none => rfl
  | some o => rw [(h.fr p o e).1] at hp; cases hp
theorem Rel0.ownsAt (h : Rel0 G Hd ds ts σ H) (o : OwnsS ds σ i p) : ∃ sv, ds[i]? = some (some sv) ∧ isOwn sv = true ∧ Own G H Hd p sv.d := by
  obtain ⟨⟨sv, e1, e2⟩, e3⟩ := o
  obtain ⟨v, h1, h2⟩ := h.slo i sv e1
  rw [e3] at h1; cases h1
  cases sv with
  | dat _ => cases e2
  | own d => obtain ⟨q, e, z⟩ := h2; cases e; exact ⟨_, e1, rfl, z⟩
  | lent d => obtain ⟨q, e, z⟩ := h2; cases e; exact ⟨_, e1, rfl, z⟩
theorem Rel0.ownsNe (h : Rel0 G Hd ds ts σ H) (hp : H p = none) (o : OwnsS ds σ i a) : a ≠ p := fun z => by
  obtain ⟨sv, _, _, ⟨w, _⟩⟩ := h.ownsAt o
  obtain ⟨u, e, _⟩ := w.some
  rw [z, hp] at e; cases e
theorem Rel0.newNe (h : Rel0 G Hd ds ts σ H) (hp : H p = none) (o : a ∈ ownT ts) : a ≠ p := fun z => by
  obtain ⟨d, hd⟩ := of_ownT o
  obtain ⟨q, e, w, _⟩ := h.tmp _ hd
  cases e
  obtain ⟨u, e, _⟩ := w.some
  rw [z, hp] at e; cases e
/-- more is seen: p, no object of ours -/
theorem Rel0.grow (h : Rel0 G Hd ds ts σ H) {o : HO} (hp : H p = some o) (hd : Hd p = none) (hf : G.F p = none) (hS : ∀ i, ¬ OwnsS ds σ i p) (hT : p ∉ ownT ts) (ht : ∀ ps, o ≠ .tbl ps) :
    Rel0 G (upd Hd p o) ds ts σ H :=
  h.move (ok := fun q => q ≠ p) (fun q hq n _ => ⟨rfl, by rw [upd_ne hq]; exact n⟩) (Same.upd hd) (fun b u e => by
      by_cases hb : b = p
      · subst hb; rw [upd_same] at e; cases e; exact hp
      · rw [upd_ne hb] at e; exact h.sub b u e)
    (fun a u e => ⟨(h.fr a u e).1, by rw [upd_ne (fun z => by rw [z, hf] at e; cases e)]; exact (h.fr a u e).2⟩)
    (fun P hP => ⟨(h.tab P hP).1, by rw [upd_ne (h.notTab hp ht hP)]; exact (h.tab P hP).2.1⟩) (fun i q o z => hS i (z ▸ o)) fun q hq z => hT (z ▸ hq)
/-- a new tuple -/
theorem Rel0.tup (h : Rel0 G Hd ds ts σ H) {xs : List V} {es : List D} (hp : H p = none) (hr : RepAll G.K Hd xs es) :
    Rel0 G (upd Hd p (.tup xs)) ds ((.dat (.tuple es), .ref p) :: ts) σ (upd H p (.tup xs)) := by
  have h1 := (h.fresh (o := .tup xs) hp).grow (p := p) (o := .tup xs) upd_same (h.hdNone hp) (h.fNone hp) (fun i o => h.ownsNe hp o rfl) (fun o => h.newNe hp o rfl) (fun _ z => by cases z)
  exact h1.pushD (.tup (SqT.of upd_same) (hr.mono (Same.upd (h.hdNone hp))))
/-- a new list or dict, not yet anyone's -/
theorem Rel0.make (h : Rel0 G Hd ds ts σ H) {o : HO} {d : D} (hp : H p = none) (hr : RepTop G.K (upd H p o) Hd p d) :
    Rel0 G Hd ds ((.new d, .ref p) :: ts) σ (upd H p o) := by
  have h1 := h.fresh (o := o) hp
  have e : ownT ((R.new d, V.ref p) :: ts) = p :: ownT ts := rfl
  exact { h1 with
    tmp := fun q hq => (List.mem_cons.mp hq).elim (fun z => by rw [z]; exact ⟨p, rfl, hr, h.hdNone hp, h.fNone hp⟩) (h1.tmp q)
    dST := fun i q o m => by
      rw [e] at m
      rcases List.mem_cons.mp m with z | z
      · exact h.ownsNe hp o z
      · exact h.dST i q o z
    dTT := by rw [e]; exact List.nodup_cons.mpr ⟨fun z => h.newNe hp z rfl, h.dTT⟩ }
theorem RepTop.rep {K : PySem.W.Frag} {H Hd : Hp} {d : D} (h : RepTop K H Hd p d) {o : HO} (e : H p = Option.some o) (n : Hd p = none) : Rep K (L2.upd Hd p o) (.ref p) d := by
  cases d with
  | list _ => obtain ⟨xs, e1, e2⟩ := h; rw [e] at e1; cases e1; exact .lst upd_same (e2.mono (Same.upd n))
  | dict _ => obtain ⟨xs, e1, e2⟩ := h; rw [e] at e1; cases e1; exact .dic upd_same (e2.mono (Same.upd n))
  | _ => exact h.elim
/-- a new object is written no more -/
theorem Rel0.freezeN (h : Rel0 G Hd ds ((.new d, v) :: ts) σ H) : ∃ Hd', Rel0 G Hd' ds ((.dat d, v) :: ts) σ H := by
  obtain ⟨p, e, z1, z2, z3⟩ := h.top
  subst e
  obtain ⟨o, e, ho⟩ := z1.some
  have nd := h.dTT
  have hS : ∀ i, ¬ OwnsS ds σ i p := fun i w => h.dST i p w (mem_ownT List.mem_cons_self)
  have hT : p ∉ ownT ts := (List.nodup_cons.mp (show (p :: ownT ts).Nodup from nd)).1
  exact ⟨_, (h.pop.grow e z2 z3 hS hT ho).pushD (z1.rep e z2)⟩
/-- the object of a slot is written no more -/
theorem Rel0.freezeS (h : Rel0 G Hd ds ts σ H) {d : D} (e : ds[i]? = some (some (.own d))) : ∃ Hd' v, σ[i]? = some (some v) ∧ Rel0 G Hd' (ds.set i (some (.dat d))) ((.dat d, v) :: ts) σ H := by
  obtain ⟨v, h1, p, e1, z1, z2, z3⟩ := h.slo i _ e
  subst e1
  obtain ⟨o, eo, ho⟩ := z1.some
  have hi : i < ds.length := (List.getElem?_eq_some_iff.mp e).1
  have me : OwnsS ds σ i p := ⟨⟨_, e, rfl⟩, h1⟩
  have at_ : ∀ (j : Nat) (sv : SV), (ds.set i (some (.dat d)))[j]? = some (some sv) → (j = i ∧ sv = .dat d) ∨ (j ≠ i ∧ ds[j]? = some (some sv)) := fun j sv q => by
    by_cases hj : i = j
    · subst hj; rw [List.getElem?_set_self hi] at q; cases q; exact .inl ⟨rfl, rfl⟩
    · rw [List.getElem?_set_ne hj] at q; exact .inr ⟨fun z => hj z.symm, q⟩
  have os : ∀ (j : Nat) (q : Addr), OwnsS (ds.set i (some (.dat d))) σ j q → j ≠ i ∧ OwnsS ds σ j q := fun j q ⟨⟨sv, w1, w2⟩, w3⟩ => by
    rcases at_ j sv w1 with ⟨_, rfl⟩ | ⟨nj, w⟩
    · cases w2
    · exact ⟨nj, ⟨sv, w, w2⟩, w3⟩
  have h' : Rel0 G Hd (ds.set i (some (.own d))) ts σ H := by
    have : ds.set i (some (.own d)) = ds := by
      apply List.ext_getElem?
      intro j
      by_cases hj : i = j
      · subst hj; rw [List.getElem?_set_self hi, e]
      · rw [List.getElem?_set_ne hj]
    rw [this]; exact h
  have key : Rel0 G (upd Hd p o) (ds.set i (some (.dat d))) ts σ H := by
    have rp : Rep G.K (upd Hd p o) (.ref p) d := z1.rep eo z2
    have sm : Same Hd (upd Hd p o) := Same.upd z2
    have kp : KeepO H H Hd (upd Hd p o) (fun q => q ≠ p) := fun q hq n _ => ⟨rfl, by rw [upd_ne hq]; exact n⟩
    exact { h with
      fr := fun a u e => ⟨(h.fr a u e).1, by rw [upd_ne (fun z => by rw [z, z3] at e; cases e)]; exact (h.fr a u e).2⟩
      vis := h.vis.trans sm
      sub := fun b u e => by
        by_cases hb : b = p
        · subst hb; rw [upd_same] at e; cases e; exact eo
        · rw [upd_ne hb] at e; exact h.sub b u e
      sll := by rw [List.length_set]; exact h.sll
      slo := fun j sv q => by
        rcases at_ j sv q with ⟨rfl, rfl⟩ | ⟨nj, q⟩
        · exact ⟨_, h1, rp⟩
        · obtain ⟨w, w1, w2⟩ := h.slo j sv q
          refine ⟨w, w1, w2.keep kp sm fun q' o' e' z => nj (h.dSS j i p ⟨⟨sv, q, o'⟩, ?_⟩ me)⟩
          rw [w1, e', z]
      bor := fun j q b => by
        obtain ⟨⟨d', w1⟩, w2⟩ := h.bor j q b
        refine ⟨⟨d', ?_⟩, w2⟩
        rw [List.getElem?_set_ne (fun z => by subst z; rw [e] at w1; cases w1)]
        exact w1
      tmp := fun q hq => by
        have z := h.tmp q hq
        obtain ⟨r, v⟩ := q
        cases r with
        | dat d => exact Rep.mono sm z
        | new d' =>
          obtain ⟨p', e', z⟩ := z
          have e' : v = .ref p' := e'
          subst e'
          exact ⟨p', rfl, z.keep kp sm fun w => h.dST i p me (by rw [← w]; exact mem_ownT hq)⟩
        | «at» j =>
          obtain ⟨w1, sv, w2⟩ := z
          refine ⟨w1, ?_⟩
          by_cases hj : i = j
          · subst hj; exact ⟨.dat d, List.getElem?_set_self hi⟩
          · exact ⟨sv, by rw [List.getElem?_set_ne hj]; exact w2⟩
      dSS := fun j k q a b => h.dSS j k q (os j q a).2 (os k q b).2
      dST := fun j q a => h.dST j q (os j q a).2
      tab := fun P hP => ⟨(h.tab P hP).1, by rw [upd_ne (h.notTab eo ho hP)]; exact (h.tab P hP).2.1, (h.tab P hP).2.2⟩ }
  exact ⟨_, _, h1, key.pushD (z1.rep eo z2)⟩
/-- the object of a slot is written -/
theorem Rel0.write (h : Rel0 G Hd ds ts σ H) {sv sv' : SV} {o : HO} (e : ds[i]? = some (some sv)) (hs : σ[i]? = some (some (.ref p))) (ho : (∃ d d', sv = .own d ∧ sv' = .own d') ∨ ∃ d d', sv = .lent d ∧ sv' = .lent d') (hr : RepTop G.K (upd H p o) Hd p sv'.d) :
    Rel0 G Hd (ds.set i (some sv')) ts σ (upd H p o) := by
  have o1 : isOwn sv = true := by rcases ho with ⟨_, _, rfl, _⟩ | ⟨_, _, rfl, _⟩ <;> rfl
  have o2 : isOwn sv' = true := by rcases ho with ⟨_, _, _, rfl⟩ | ⟨_, _, _, rfl⟩ <;> rfl
  have me : OwnsS ds σ i p := ⟨⟨_, e, o1⟩, hs⟩
  obtain ⟨_, _, _, z1, z2, z3⟩ := h.ownsAt me
  obtain ⟨ou, eo, hno⟩ := z1.some
  have hi : i < ds.length := (List.getElem?_eq_some_iff.mp e).1
  have at_ : ∀ (j : Nat) (s : SV), (ds.set i (some sv'))[j]? = some (some s) → (j = i ∧ s = sv') ∨ (j ≠ i ∧ ds[j]? = some (some s)) := fun j s q => by
    by_cases hj : i = j
    · subst hj; rw [List.getElem?_set_self hi] at q; cases q; exact .inl ⟨rfl, rfl⟩
    · rw [List.getElem?_set_ne hj] at q; exact .inr ⟨fun z => hj z.symm, q⟩
  have os : ∀ (j : Nat) (q : Addr), OwnsS (ds.set i (some sv')) σ j q → OwnsS ds σ j q := fun j q ⟨⟨s, w1, w2⟩, w3⟩ => by
    rcases at_ j s w1 with ⟨rfl, rfl⟩ | ⟨nj, w⟩
    · exact ⟨⟨sv, e, o1⟩, w3⟩
    · exact ⟨⟨s, w, w2⟩, w3⟩
  have kp : KeepO H (upd H p o) Hd Hd (fun q => q ≠ p) := fun q hq n _ => ⟨upd_ne hq, n⟩
  have nw : Own G (upd H p o) Hd p sv'.d := ⟨hr, z2, z3⟩
  exact { h with
    fr := fun b u e => ⟨by rw [upd_ne (fun z => by rw [z, z3] at e; cases e)]; exact (h.fr b u e).1, (h.fr b u e).2⟩
    sub := fun b u e => by rw [upd_ne (fun z => by rw [z, z2] at e; cases e)]; exact h.sub b u e
    sll := by rw [List.length_set]; exact h.sll
    slo := fun j s q => by
      rcases at_ j s q with ⟨rfl, rfl⟩ | ⟨nj, q⟩
      · refine ⟨_, hs, ?_⟩
        rcases ho with ⟨_, _, _, rfl⟩ | ⟨_, _, _, rfl⟩ <;> exact ⟨p, rfl, nw⟩
      · obtain ⟨w, w1, w2⟩ := h.slo j s q
        refine ⟨w, w1, w2.keep kp (Same.refl _) fun q' o' e' z => nj (h.dSS j i p ⟨⟨s, q, o'⟩, ?_⟩ me)⟩
        rw [w1, e', z]
    bor := fun j q b => by
      obtain ⟨⟨d', w1⟩, w2⟩ := h.bor j q b
      refine ⟨?_, w2⟩
      by_cases hj : i = j
      · subst hj
        rw [e] at w1; cases w1
        rcases ho with ⟨_, _, z, _⟩ | ⟨_, d2, _, rfl⟩
        · cases z
        · exact ⟨d2, List.getElem?_set_self hi⟩
      · exact ⟨d', by rw [List.getElem?_set_ne hj]; exact w1⟩
    tmp := fun q hq => by
      have z := h.tmp q hq
      obtain ⟨r, v⟩ := q
      cases r with
      | dat d => exact z
      | new d' =>
        obtain ⟨p', e', z⟩ := z
        have e' : v = .ref p' := e'
        subst e'
        exact ⟨p', rfl, z.keep kp (Same.refl _) fun w => h.dST i p me (by rw [← w]; exact mem_ownT hq)⟩
      | «at» j =>
        obtain ⟨w1, s, w2⟩ := z
        refine ⟨w1, ?_⟩
        by_cases hj : i = j
        · subst hj; exact ⟨sv', List.getElem?_set_self hi⟩
        · exact ⟨s, by rw [List.getElem?_set_ne hj]; exact w2⟩
    dSS := fun j k q a b => h.dSS j k q (os j q a) (os k q b)
    dST := fun j q a => h.dST j q (os j q a)
    tab := fun P hP => by
      exact ⟨(h.tab P hP).1.keep (upd_ne (h.notTab eo hno hP)) (fun c φ e => by rw [upd_ne (fun (z : c = p) => RepTop.noExt z1 φ (by rw [← z]; exact e))]; exact e), (h.tab P hP).2⟩ }
/-- a value goes into a slot -/
def putS : R → SV
  | .dat d => .dat d
  | .new d => .own d
  | .at _ => .dat .none
theorem Rel0.store (h : Rel0 G Hd ds ((r, v) :: ts) σ H) (hr : notAt r) (hn : NoAt ts) (hb : G.B i = none) : Rel0 G Hd (ds.set i (some (putS r))) ts (σ.set i (some v)) H := by
  have at_ : ∀ (j : Nat) (s : SV), (ds.set i (some (putS r)))[j]? = some (some s) → (j = i ∧ s = putS r ∧ i < ds.length) ∨ (j ≠ i ∧ ds[j]? = some (some s)) := fun j s q => by
    by_cases hj : i = j
    · subst hj
      by_cases hi : i < ds.length
      · rw [List.getElem?_set_self hi] at q; cases q; exact .inl ⟨rfl, rfl, hi⟩
      · rw [List.getElem?_eq_none (by rw [List.length_set]; omega)] at q; cases q
    · rw [List.getElem?_set_ne hj] at q; exact .inr ⟨fun z => hj z.symm, q⟩
  have os : ∀ (j : Nat) (q : Addr), OwnsS (ds.set i (some (putS r))) (σ.set i (some v)) j q → (j = i ∧ v = .ref q ∧ isOwn (putS r) = true) ∨ (j ≠ i ∧ OwnsS ds σ j q) := fun j q ⟨⟨s, w1, w2⟩, w3⟩ => by
    rcases at_ j s w1 with ⟨rfl, rfl, hi⟩ | ⟨nj, w⟩
    · rw [List.getElem?_set_self (by rw [← h.sll]; exact hi)] at w3
      cases w3
      exact .inl ⟨rfl, rfl, w2⟩
    · rw [List.getElem?_set_ne (fun z => nj z.symm)] at w3
      exact .inr ⟨nj, ⟨s, w, w2⟩, w3⟩
  have top := h.top
  have own : isOwn (putS r) = true → ∀ q, v = .ref q → (∀ j, ¬ OwnsS ds σ j q) ∧ q ∉ ownT ts := fun o q e => by
    cases r with
    | dat _ => cases o
    | «at» _ => cases o
    | new d =>
      subst e
      exact ⟨fun j w => h.dST j q w (mem_ownT List.mem_cons_self), (List.nodup_cons.mp (show (q :: ownT ts).Nodup from h.dTT)).1⟩
  exact { h.pop with
    sll := by rw [List.length_set, List.length_set]; exact h.sll
    slo := fun j s q => by
      rcases at_ j s q with ⟨rfl, rfl, hi⟩ | ⟨nj, q⟩
      · refine ⟨v, List.getElem?_set_self (by rw [← h.sll]; exact hi), ?_⟩
        cases r with
        | dat d => exact top
        | new d => exact top
        | «at» _ => exact hr.elim
      · obtain ⟨w, w1, w2⟩ := h.slo j s q
        exact ⟨w, by rw [List.getElem?_set_ne (fun z => nj z.symm)]; exact w1, w2⟩
    bor := fun j q b => by
      obtain ⟨⟨d', w1⟩, w2⟩ := h.bor j q b
      have hj : i ≠ j := fun z => by rw [z, b] at hb; cases hb
      exact ⟨⟨d', by rw [List.getElem?_set_ne hj]; exact w1⟩, by rw [List.getElem?_set_ne hj]; exact w2⟩
    tmp := fun q hq => by
      have z := h.tmp q (List.mem_cons_of_mem _ hq)
      have n := hn q hq
      obtain ⟨r', v'⟩ := q
      cases r' with
      | dat d => exact z
      | new d' => exact z
      | «at» j => exact n.elim
    dSS := fun j k q a b => by
      rcases os j q a with ⟨e1, e, o⟩ | ⟨_, a'⟩
      · rcases os k q b with ⟨e2, _, _⟩ | ⟨_, b'⟩
        · rw [e1, e2]
        · exact absurd b' ((own o q e).1 k)
      · rcases os k q b with ⟨_, e, o⟩ | ⟨_, b'⟩
        · exact absurd a' ((own o q e).1 j)
        · exact h.dSS j k q a' b'
    dST := fun j q a => by
      rcases os j q a with ⟨rfl, e, o⟩ | ⟨_, a⟩
      · exact (own o q e).2
      · exact h.pop.dST j q a }
end
end Den
/-! DenC: readings by data; expressions -/
namespace Den
open PySem PySem.Spec PyProof.Rows L2

/-- what is wanted if an error leaves -/
def PErr (G : Gh) (W : L2.WX) (ts : List (R × V)) (σ : L2.St) (c : String) (ds : DS) : Prop := ∃ cv, G.cls c = some cv ∧ ∀ H, Rel G ds ts σ H → W cv none σ H
def pD (G : Gh) (W : L2.WX) (o : Option (Res R)) (ts : List (R × V)) (σ : L2.St) (Q : VK) : Prop :=
  Post o (fun r ds' => ∀ v H', Rel G ds' ((r, v) :: ts) σ H' → Q v H') (PErr G W ts σ)
def tD (G : Gh) (W : L2.WX) (f : M R) : TE := fun σ H Q => ∃ ds ts, Rel G ds ts σ H ∧ pD G W (f ds) ts σ Q
def tT (G : Gh) (W : L2.WX) (f : M Bool) : TT := fun σ H Q => ∃ ds ts, Rel G ds ts σ H ∧ Post (f ds) (fun b ds' => ∀ H', Rel G ds' ts σ H' → Q b H') (PErr G W ts σ)
def tA (G : Gh) (W : L2.WX) (f : M (List R)) : TA := fun σ H Q => ∃ ds ts, Rel G ds ts σ H ∧
  Post (f ds) (fun rs ds' => ∀ vs H', vs.length = rs.length → Rel G ds' (rs.zip vs ++ ts) σ H' → Q vs H') (PErr G W ts σ)
def tO (G : Gh) (W : L2.WX) (f : M (Option Int)) : TO := fun σ H Q => ∃ ds ts, Rel G ds ts σ H ∧ Post (f ds) (fun b ds' => ∀ H', Rel G ds' ts σ H' → Q b H') (PErr G W ts σ)

section
variable {X : Cx} {G : Gh} {W : L2.WX}
theorem Rel.sub' {ds : DS} {ts ts' : List (R × V)} {σ : L2.St} {H : Hp} (h : Rel G ds ts σ H) (s : ts'.Sublist ts) : Rel G ds ts' σ H := let ⟨Hd, h⟩ := h; ⟨Hd, h.sub' s⟩
theorem Rel.perm {ds : DS} {ts ts' : List (R × V)} {σ : L2.St} {H : Hp} (h : Rel G ds ts σ H) (s : ts'.Perm ts) : Rel G ds ts' σ H := let ⟨Hd, h⟩ := h; ⟨Hd, h.perm s⟩
theorem Rel.pop {ds : DS} {p : R × V} {ts : List (R × V)} {σ : L2.St} {H : Hp} (h : Rel G ds (p :: ts) σ H) : Rel G ds ts σ H := h.sub' (List.sublist_cons_self _ _)
theorem PErr.more {ts ts' : List (R × V)} {σ : L2.St} {c : String} {ds : DS} (h : PErr G W ts σ c ds) (s : ts.Sublist ts') : PErr G W ts' σ c ds :=
  let ⟨cv, e, k⟩ := h; ⟨cv, e, fun H r => k H (r.sub' s)⟩
theorem PErr.push {p : R × V} {ts : List (R × V)} {σ : L2.St} {c : String} {ds : DS} (h : PErr G W ts σ c ds) : PErr G W (p :: ts) σ c ds := h.more (List.sublist_cons_self _ _)
theorem pe_imp {e : Expr} {t t' : TE} (h : PE X e t) (i : ∀ σ H Q, t' σ H Q → t σ H Q) : PE X e t' := ⟨fun pins s σ H Q I q => h.run pins s σ H Q I (i σ H Q q)⟩
theorem pt_imp {e : Expr} {t t' : TT} (h : PT X e t) (i : ∀ σ H Q, t' σ H Q → t σ H Q) : PT X e t' := ⟨fun pins s σ H Q I q => h.run pins s σ H Q I (i σ H Q q)⟩
theorem pw_imp {e : Expr} {t t' : TT} (h : PW X e t) (i : ∀ σ H Q, t' σ H Q → t σ H Q) : PW X e t' := ⟨fun wh pins s σ H Q I q => h.run wh pins s σ H Q I (i σ H Q q)⟩
theorem pa_imp {e : List Expr} {t t' : TA} (h : PA X e t) (i : ∀ σ H Q, t' σ H Q → t σ H Q) : PA X e t' := ⟨fun pos pins s σ H Q I q => h.run pos pins s σ H Q I (i σ H Q q)⟩
theorem po_imp {e : Option Expr} {t t' : TO} (h : PO X e t) (i : ∀ σ H Q, t' σ H Q → t σ H Q) : PO X e t' := ⟨fun pins s σ H Q I q => h.run pins s σ H Q I (i σ H Q q)⟩

/-- a reading runs: then go on with more -/
theorem tD.go {f : M R} {k : R → M R} {ds : DS} {ts : List (R × V)} {σ : L2.St} {H : Hp} {P : R → DS → Prop} {Q : VK} (h : Rel G ds ts σ H)
    (p : Post (f ds) P (PErr G W ts σ)) (q : ∀ r ds' v H', P r ds' → Rel G ds' ((r, v) :: ts) σ H' → Q v H') : tD G W f σ H Q :=
  ⟨ds, ts, h, Post.mono p (fun r ds' hp v H' hr => q r ds' v H' hp hr) fun _ _ e => e⟩
theorem tT.go {f : M Bool} {ds : DS} {ts : List (R × V)} {σ : L2.St} {H : Hp} {P : Bool → DS → Prop} {Q : Bool → Hp → Prop} (h : Rel G ds ts σ H)
    (p : Post (f ds) P (PErr G W ts σ)) (q : ∀ r ds' H', P r ds' → Rel G ds' ts σ H' → Q r H') : tT G W f σ H Q :=
  ⟨ds, ts, h, Post.mono p (fun r ds' hp H' hr => q r ds' H' hp hr) fun _ _ e => e⟩
theorem tO.go {f : M (Option Int)} {ds : DS} {ts : List (R × V)} {σ : L2.St} {H : Hp} {P : Option Int → DS → Prop} {Q : Option Int → Hp → Prop} (h : Rel G ds ts σ H)
    (p : Post (f ds) P (PErr G W ts σ)) (q : ∀ r ds' H', P r ds' → Rel G ds' ts σ H' → Q r H') : tO G W f σ H Q :=
  ⟨ds, ts, h, Post.mono p (fun r ds' hp H' hr => q r ds' H' hp hr) fun _ _ e => e⟩
theorem tA.go {f : M (List R)} {ds : DS} {ts : List (R × V)} {σ : L2.St} {H : Hp} {P : List R → DS → Prop} {Q : List V → Hp → Prop} (h : Rel G ds ts σ H)
    (p : Post (f ds) P (PErr G W ts σ)) (q : ∀ r ds' v H', P r ds' → v.length = r.length → Rel G ds' (r.zip v ++ ts) σ H' → Q v H') : tA G W f σ H Q :=
  ⟨ds, ts, h, Post.mono p (fun r ds' hp v H' hl hr => q r ds' v H' hp hl hr) fun _ _ e => e⟩

/-! ### names and constants -/
def getSl (i : Nat) : M R := fun ds => match ds[i]? with
  | some (some sv) => some (.ok (getR i sv) ds)
  | _ => none
theorem de_var {i : Nat} {x : Str} {pos : Pos} (h : PE X (.Name x pos) (tVar i)) : PE X (.Name x pos) (tD G W (getSl i)) := pe_imp h fun σ H Q q => by
  obtain ⟨ds, ts, ⟨Hd, h⟩, p⟩ := q
  unfold pD getSl at p
  cases e : ds[i]? with
  | none => rw [e] at p; exact p.elim
  | some o => cases o with
    | none => rw [e] at p; exact p.elim
    | some sv =>
      rw [e] at p
      obtain ⟨v, h1, h2⟩ := h.slot e
      exact ⟨v, h1, p v H ⟨Hd, h2⟩⟩
/-- a value that needs no heap -/
def flatD : V → D → Prop := fun v d => ∀ K H, Rep K H v d
theorem de_con {e : Expr} {v : V} {d : D} (h : PE X e (tC v)) (f : flatD v d) : PE X e (tD G W (pure (.dat d))) := pe_imp h fun σ H Q q => by
  obtain ⟨ds, ts, ⟨Hd, h⟩, p⟩ := q
  exact p v H ⟨Hd, h.pushD (f _ _)⟩
theorem de_int {i j pos} : PE X (.Constant (.int i) j pos) (tD G W (pure (.dat (.int i)))) := de_con pe_int fun _ _ => .int i
theorem de_bl {i j pos} : PE X (.Constant (.bool i) j pos) (tD G W (pure (.dat (.bool i)))) := de_con pe_bl fun _ _ => .bl i
theorem de_str {i j pos} : PE X (.Constant (.str i) j pos) (tD G W (pure (.dat (.str i)))) := de_con pe_str fun _ _ => .str i
theorem de_non {j pos} : PE X (.Constant .none j pos) (tD G W (pure (.dat .none))) := de_con pe_non fun _ _ => .non
theorem de_gint {x : Str} {pos : Pos} {i : Int} {t : Tok} (hg : Gl X x) (hm : X.mg x = some (.int i t)) (hd : (x == ("__debug__" : Str)) = false := by decide) : PE X (.Name x pos) (tD G W (pure (.dat (.int i)))) :=
  de_con (v := .int i) (pe_glob hg hm ⟨_, rfl⟩ hd) fun _ _ => .int i
theorem de_gstr {x : Str} {pos : Pos} {i : Str} {t : Tok} (hg : Gl X x) (hm : X.mg x = some (.str i t)) (hd : (x == ("__debug__" : Str)) = false := by decide) : PE X (.Name x pos) (tD G W (pure (.dat (.str i)))) :=
  de_con (v := .str i) (pe_glob hg hm ⟨_, rfl⟩ hd) fun _ _ => .str i

/-! ### two values to one -/
variable {a b c : Expr} {pos : Pos} {fa fb fc : M R}
/-- g, done by values, is r -/
def Does2 (G : Gh) (W : L2.WX) (r : R2) (g : R → R → M R) : Prop := ∀ x y H (Q : VK) σ ds ts rx ry, Rel G ds ((ry, y) :: (rx, x) :: ts) σ H → pD G W (g rx ry ds) ts σ Q → r x y H Q
theorem tOp_of {r : R2} {g : R → R → M R} (hg : Does2 G W r g) {σ : L2.St} {H : Hp} {Q : VK}
    (q : tD G W (do let x ← fa; let y ← fb; g x y) σ H Q) : tOp r (tD G W fa) (tD G W fb) σ H Q := by
  obtain ⟨ds, ts, h, p⟩ := q
  refine tD.go (k := fun x => pure x) h (Post.bind.mp p) fun rx ds1 x H1 p1 h1 => ?_
  refine tD.go (k := fun x => pure x) h1 ((Post.bind.mp p1).mono (fun _ _ z => z) fun _ _ z => z.push) fun ry ds2 y H2 p2 h2 => ?_
  exact hg x y H2 Q σ ds2 ts rx ry h2 p2
theorem de_op {op : Operator} {r : R2} {g : R → R → M R} (ho : OpR X (binaryOp op) r) (hg : Does2 G W r g) (ha : PE X a (tD G W fa)) (hb : PE X b (tD G W fb)) :
    PE X (.BinOp a op b pos) (tD G W (do let x ← fa; let y ← fb; g x y)) := pe_imp (pe_op ho ha hb) fun _ _ _ q => tOp_of hg q
theorem de_cmp {op : CmpOp} {r : R2} {g : R → R → M R} (ho : OpR X (compareOp op) r) (hg : Does2 G W r g) (hm : behindInMarks op b = false) (ha : PE X a (tD G W fa)) (hb : PE X b (tD G W fb)) :
    PE X (.Compare a [op] [b] pos) (tD G W (do let x ← fa; let y ← fb; g x y)) := pe_imp (pe_cmpR ho ha hb hm) fun _ _ _ q => tOp_of hg q
theorem OpR.or {f : Value → Value → Sem Value} {r r' : R2} (h : OpR X f r) (h' : OpR X f r') : OpR X f (fun x y H Q => r x y H Q ∨ r' x y H Q) :=
  fun pins s σ H x y v u Q I rx ry q => q.elim (h pins s σ H x y v u Q I rx ry) (h' pins s σ H x y v u Q I rx ry)

/-- whole numbers out of values -/
def asInt (r : R) : M Int := match r with
  | .dat (.int i) => pure i
  | _ => fail
def retI (i : Int) : M R := pure (.dat (.int i))
def retB (b : Bool) : M R := pure (.dat (.bool b))
def need (b : Bool) : M Unit := if b then pure () else fail
theorem Post.need {α : Type} {b : Bool} {k : M α} {ds : DS} {P : α → DS → Prop} {E : String → DS → Prop} (h : Post ((do need b; k) ds) P E) : b = true ∧ Post (k ds) P E := by
  cases b with
  | true => exact ⟨rfl, h⟩
  | false => exact h.elim
def dat (r : R) : M D := fun ds => match dOf ds r with
  | some d => some (.ok d ds)
  | none => none
theorem Post.dat {α : Type} {r : R} {k : D → M α} {ds : DS} {P : α → DS → Prop} {E : String → DS → Prop} (h : Post ((do let d ← dat r; k d) ds) P E) : ∃ d, dOf ds r = some d ∧ Post (k d ds) P E := by
  have h' := Post.bind.mp h
  unfold Den.dat at h'
  cases e : dOf ds r with
  | none => rw [e] at h'; exact h'.elim
  | some d => rw [e] at h'; exact ⟨d, rfl, h'⟩
theorem Post.asInt {α : Type} {r : R} {k : Int → M α} {ds : DS} {P : α → DS → Prop} {E : String → DS → Prop} (h : Post ((do let d ← asInt r; k d) ds) P E) : ∃ i, r = .dat (.int i) ∧ Post (k i ds) P E := by
  unfold Den.asInt at h
  split at h
  · exact ⟨_, rfl, h⟩
  · exact (Post.bind.mp h).elim
theorem rep_int {K : PySem.W.Frag} {H : Hp} {v : V} {i : Int} (h : Rep K H v (.int i)) : v = .int i := by cases h; rfl
theorem rep_bool {K : PySem.W.Frag} {H : Hp} {v : V} {i : Bool} (h : Rep K H v (.bool i)) : v = .bl i := by cases h; rfl
theorem rep_str {K : PySem.W.Frag} {H : Hp} {v : V} {i : Str} (h : Rep K H v (.str i)) : v = .str i := by cases h; rfl
theorem rep_non {K : PySem.W.Frag} {H : Hp} {v : V} (h : Rep K H v .none) : v = .non := by cases h; rfl
/-- the plain end of an operation: flat data -/
theorem Rel.flat {ds : DS} {ts : List (R × V)} {σ : L2.St} {H : Hp} {v : V} {d : D} (h : Rel G ds ts σ H) (f : flatD v d) : Rel G ds ((.dat d, v) :: ts) σ H := let ⟨Hd, h⟩ := h; ⟨Hd, h.pushD (f _ _)⟩
theorem flat_int (i : Int) : flatD (.int i) (.int i) := fun _ _ => .int i
theorem flat_bl (i : Bool) : flatD (.bl i) (.bool i) := fun _ _ => .bl i
theorem flat_str (i : Str) : flatD (.str i) (.str i) := fun _ _ => .str i
theorem flat_non : flatD .non .none := fun _ _ => .non

def int2 (C : Int → Int → Bool) (g : Int → Int → R) : R → R → M R := fun x y => do
  let i ← asInt x
  let j ← asInt y
  need (C i j)
  pure (g i j)
theorem does_rI {C : Int → Int → Prop} {Cb : Int → Int → Bool} {g : Int → Int → V} {gd : Int → Int → D} (hC : ∀ i j, Cb i j = true → C i j) (hg : ∀ i j, flatD (g i j) (gd i j)) : Does2 G W (rI C g) (int2 Cb fun i j => .dat (gd i j)) := by
  intro x y H Q σ ds ts rx ry h p
  obtain ⟨i, rfl, p⟩ := Post.asInt (r := rx) p
  obtain ⟨j, rfl, p⟩ := Post.asInt (r := ry) p
  obtain ⟨c, p⟩ := Post.need (b := Cb i j) p
  obtain ⟨Hd, h⟩ := id h
  have e1 : y = .int j := rep_int (h.tmp _ List.mem_cons_self)
  have e2 : x = .int i := rep_int (h.tmp _ (List.mem_cons_of_mem _ List.mem_cons_self))
  exact ⟨i, j, e2, e1, hC i j c, p _ H (Rel.flat ⟨Hd, h.pop.pop⟩ (hg i j))⟩
theorem does_rI0 {g : Int → Int → V} {gd : Int → Int → D} (hg : ∀ i j, flatD (g i j) (gd i j)) : Does2 G W (rI0 g) (int2 (fun _ _ => true) fun i j => .dat (gd i j)) := by
  intro x y H Q σ ds ts rx ry h p
  obtain ⟨i, j, e1, e2, _, q⟩ := does_rI (C := fun _ _ => True) (fun _ _ _ => trivial) hg x y H Q σ ds ts rx ry h p
  exact ⟨i, j, e1, e2, q⟩
def gLt := int2 (fun _ _ => true) fun i j => .dat (.bool (decide (i < j)))
def gLe := int2 (fun _ _ => true) fun i j => .dat (.bool (decide (i ≤ j)))
def gGt := int2 (fun _ _ => true) fun i j => .dat (.bool (decide (j < i)))
def gGe := int2 (fun _ _ => true) fun i j => .dat (.bool (decide (j ≤ i)))
def gSub := int2 (fun _ _ => true) fun i j => .dat (.int (i - j))
def gMod := int2 (fun _ j => decide (0 < j)) fun i j => .dat (.int (i % j))
def gFdiv := int2 (fun _ j => decide (0 < j ∧ j < 1073741824)) fun i j => .dat (.int (i / j))
def mulOk (i j : Int) : Bool := decide ((-18446744073709551616 < i ∧ i < 18446744073709551616) ∨ (-18446744073709551616 < j ∧ j < 18446744073709551616))
def gPow := int2 (fun i j => decide (0 ≤ j ∧ j ≤ 1000000 ∧ i.natAbs < 18446744073709551616)) fun i j => .dat (.int (i ^ j.toNat))
theorem do_lt : Does2 G W (rI0 fun i j => V.bl (decide (i < j))) gLt := does_rI0 fun _ _ => flat_bl _
theorem do_le : Does2 G W (rI0 fun i j => V.bl (decide (i ≤ j))) gLe := does_rI0 fun _ _ => flat_bl _
theorem do_gt : Does2 G W (rI0 fun i j => V.bl (decide (j < i))) gGt := does_rI0 fun _ _ => flat_bl _
theorem do_ge : Does2 G W (rI0 fun i j => V.bl (decide (j ≤ i))) gGe := does_rI0 fun _ _ => flat_bl _
theorem do_sub : Does2 G W (rI0 fun i j => V.int (i - j)) gSub := does_rI0 fun _ _ => flat_int _
theorem do_mod : Does2 G W (rI (fun _ j => 0 < j) fun i j => V.int (i % j)) gMod := does_rI (fun _ _ h => of_decide_eq_true h) fun _ _ => flat_int _
theorem do_fdiv : Does2 G W (rI CDiv fun i j => V.int (i / j)) gFdiv := does_rI (fun i j h => show 0 < j ∧ j < 1073741824 from of_decide_eq_true h) fun _ _ => flat_int _
theorem do_pow : Does2 G W (rI CPow fun i j => V.int (i ^ j.toNat)) gPow := does_rI (fun _ _ h => by
  have := of_decide_eq_true h
  exact ⟨this.1, this.2.1, by have := this.2.2; simpa using this⟩) fun _ _ => flat_int _
section
variable (ha : PE X a (tD G W fa)) (hb : PE X b (tD G W fb))
include ha hb
theorem de_sub : PE X (.BinOp a .Sub b pos) (tD G W (do let x ← fa; let y ← fb; gSub x y)) := de_op op_sub do_sub ha hb
theorem de_mod : PE X (.BinOp a .Mod b pos) (tD G W (do let x ← fa; let y ← fb; gMod x y)) := de_op op_mod do_mod ha hb
theorem de_fdiv : PE X (.BinOp a .FloorDiv b pos) (tD G W (do let x ← fa; let y ← fb; gFdiv x y)) := de_op op_fdiv do_fdiv ha hb
theorem de_pow : PE X (.BinOp a .Pow b pos) (tD G W (do let x ← fa; let y ← fb; gPow x y)) := de_op op_pow do_pow ha hb
theorem de_lt : PE X (.Compare a [.Lt] [b] pos) (tD G W (do let x ← fa; let y ← fb; gLt x y)) := de_cmp op_lt do_lt (nobehind b (by decide) (by decide)) ha hb
theorem de_le : PE X (.Compare a [.LtE] [b] pos) (tD G W (do let x ← fa; let y ← fb; gLe x y)) := de_cmp op_le do_le (nobehind b (by decide) (by decide)) ha hb
theorem de_gt : PE X (.Compare a [.Gt] [b] pos) (tD G W (do let x ← fa; let y ← fb; gGt x y)) := de_cmp op_gt do_gt (nobehind b (by decide) (by decide)) ha hb
theorem de_ge : PE X (.Compare a [.GtE] [b] pos) (tD G W (do let x ← fa; let y ← fb; gGe x y)) := de_cmp op_ge do_ge (nobehind b (by decide) (by decide)) ha hb
end

/-! ### +, * -/
def lenOk (n : Nat) : M Unit := need (decide (n ≤ 16777216))
theorem sizeLine16 {n : Nat} (h : decide (n ≤ 16777216) = true) : n ≤ sizeLine := by rw [sizeLine_eq]; exact of_decide_eq_true h
/-- a new list -/
def newL (es : List D) : M R := pure (.new (.list es))
def gAdd (x y : R) : M R := do
  let d ← dat x
  let e ← dat y
  match d, e with
  | .int i, .int j => retI (i + j)
  | .tuple as, .tuple bs => do lenOk (as.length + bs.length); pure (.dat (.tuple (as ++ bs)))
  | .list as, .list bs => do lenOk (as.length + bs.length); newL (as ++ bs)
  | _, _ => fail
theorem Rel.newL {ds : DS} {ts : List (R × V)} {σ : L2.St} {H : Hp} {p : Addr} {xs : List V} {es : List D} (h : ∃ Hd, Rel0 G Hd ds ts σ H ∧ RepAll G.K Hd xs es) (hp : H p = none) :
    Rel G ds ((.new (.list es), .ref p) :: ts) σ (upd H p (.lst xs)) :=
  let ⟨Hd, h, r⟩ := h; ⟨Hd, h.make hp ⟨xs, upd_same, r⟩⟩
theorem Rel.newT {ds : DS} {ts : List (R × V)} {σ : L2.St} {H : Hp} {p : Addr} {xs : List V} {es : List D} (h : ∃ Hd, Rel0 G Hd ds ts σ H ∧ RepAll G.K Hd xs es) (hp : H p = none) :
    Rel G ds ((.dat (.tuple es), .ref p) :: ts) σ (upd H p (.tup xs)) :=
  let ⟨Hd, h, r⟩ := h; ⟨_, h.tup hp r⟩
theorem do_add : Does2 G W (fun x y H Q => (rI0 fun i j => V.int (i + j)) x y H Q ∨ rCat x y H Q ∨ rCatA G.K x y H Q) gAdd := by
  intro x y H Q σ ds ts rx ry h p
  obtain ⟨Hd, h⟩ := id h
  obtain ⟨d, hd, p⟩ := Post.dat (r := rx) p
  obtain ⟨e, he, p⟩ := Post.dat (r := ry) p
  have ry' := h.tmp _ List.mem_cons_self
  have rx' := h.tmp _ (List.mem_cons_of_mem _ List.mem_cons_self)
  split at p
  · have e1 : x = .int _ := rep_int (h.look rx' hd)
    have e2 : y = .int _ := rep_int (h.look ry' he)
    exact .inl ⟨_, _, e1, e2, p _ H (Rel.flat ⟨Hd, h.pop.pop⟩ (flat_int _))⟩
  · obtain ⟨c, p⟩ := Post.need (b := decide (_ ≤ 16777216)) p
    obtain ⟨a, xs, e1, s1, r1⟩ := h.tuple rx' hd
    obtain ⟨b, ys, e2, s2, r2⟩ := h.tuple ry' he
    have l1 := r1.length
    have l2 := r2.length
    refine .inr (.inr ⟨a, b, xs, ys, e1, e2, s1, s2, sizeLine16 (by rw [l1, l2]; exact c), fun z => ?_, fun _ z => ?_, fun _ _ p' np => ?_⟩)
    · have z' := List.eq_nil_of_length_eq_zero (l1.symm.trans (by rw [z]; rfl))
      refine p _ H ⟨Hd, h.pop.pop.pushD ?_⟩
      rw [z', List.nil_append, ← e2]
      exact h.tupRep ry' he
    · have z' := List.eq_nil_of_length_eq_zero (l2.symm.trans (by rw [z]; rfl))
      refine p _ H ⟨Hd, h.pop.pop.pushD ?_⟩
      rw [z', List.append_nil, ← e1]
      exact h.tupRep rx' hd
    · exact p _ _ (Rel.newT ⟨Hd, h.pop.pop, r1.append r2⟩ np)
  · obtain ⟨c, p⟩ := Post.need (b := decide (_ ≤ 16777216)) p
    obtain ⟨a, xs, e1, s1, r1⟩ := h.list rx' hd
    obtain ⟨b, ys, e2, s2, r2⟩ := h.list ry' he
    have l1 := r1.length
    have l2 := r2.length
    exact .inr (.inl ⟨a, b, xs, ys, e1, e2, s1, s2, sizeLine16 (by rw [l1, l2]; exact c), fun p' np => p _ _ (Rel.newL ⟨Hd, h.pop.pop, r1.append r2⟩ np)⟩)
  · exact p.elim
end
end Den
/-! DenD: comparisons, tests, displays, items, slices -/
namespace Den
open PySem PySem.Spec PyProof.Rows L2
section
variable {X : Cx} {G : Gh} {W : L2.WX} {a b c e : Expr} {pos : Pos} {fa fb fc f : M R}

/-! ### * -/
def gMul (x y : R) : M R := do
  let d ← dat x
  let e ← dat y
  match d, e with
  | .int i, .int j => do need (mulOk i j); retI (i * j)
  | .list as, .int k => do need (decide (0 ≤ k ∧ k < 9223372036854775808)); lenOk (as.length * k.toNat); newL (List.replicate k.toNat as).flatten
  | _, _ => fail
theorem RepAll.rep {K : PySem.W.Frag} {H : Hp} {v : List V} {d : List D} (h : RepAll K H v d) : ∀ n : Nat, RepAll K H (List.replicate n v).flatten (List.replicate n d).flatten
  | 0 => .nil
  | n + 1 => by
    rw [List.replicate_succ, List.replicate_succ, List.flatten_cons, List.flatten_cons]
    exact h.append (RepAll.rep h n)
theorem do_mul : Does2 G W (fun x y H Q => (rI CMul fun i j => V.int (i * j)) x y H Q ∨ rRep x y H Q) gMul := by
  intro x y H Q σ ds ts rx ry h p
  obtain ⟨Hd, h⟩ := id h
  obtain ⟨d, hd, p⟩ := Post.dat (r := rx) p
  obtain ⟨e, he, p⟩ := Post.dat (r := ry) p
  have ry' := h.tmp _ List.mem_cons_self
  have rx' := h.tmp _ (List.mem_cons_of_mem _ List.mem_cons_self)
  split at p
  · obtain ⟨c, p⟩ := Post.need (b := mulOk _ _) p
    have e1 : x = .int _ := rep_int (h.look rx' hd)
    have e2 : y = .int _ := rep_int (h.look ry' he)
    exact .inl ⟨_, _, e1, e2, by
      have := of_decide_eq_true (show decide _ = true from c)
      simpa [CMul] using this, p _ H (Rel.flat ⟨Hd, h.pop.pop⟩ (flat_int _))⟩
  · obtain ⟨c1, p⟩ := Post.need (b := decide _) p
    obtain ⟨c2, p⟩ := Post.need (b := decide (_ ≤ 16777216)) p
    have c1 := of_decide_eq_true c1
    obtain ⟨a, xs, e1, s1, r1⟩ := h.list rx' hd
    have e2 : y = .int _ := rep_int (h.look ry' he)
    exact .inr ⟨a, _, xs, e1, e2, s1, by omega, by simpa using c1.2, sizeLine16 (by rw [r1.length]; exact c2), fun p' np => p _ _ (Rel.newL ⟨Hd, h.pop.pop, r1.rep _⟩ np)⟩
  · exact p.elim
theorem de_add (hu : X.K = G.K) (ha : PE X a (tD G W fa)) (hb : PE X b (tD G W fb)) : PE X (.BinOp a .Add b pos) (tD G W (do let x ← fa; let y ← fb; gAdd x y)) :=
  de_op (OpR.or op_add (OpR.or op_cat (hu ▸ op_catA))) do_add ha hb
theorem de_mul (ha : PE X a (tD G W fa)) (hb : PE X b (tD G W fb)) : PE X (.BinOp a .Mult b pos) (tD G W (do let x ← fa; let y ← fb; gMul x y)) :=
  de_op (OpR.or op_mul op_rep) do_mul ha hb
theorem de_neg (ha : PE X a (tD G W fa)) : PE X (.UnaryOp .USub a pos) (tD G W (do let x ← fa; let i ← asInt x; retI (-i))) := pe_imp (pe_un un_neg ha) fun σ H Q q => by
  obtain ⟨ds, ts, h, p⟩ := q
  refine tD.go (k := fun x => pure x) h (Post.bind.mp p) fun rx ds1 x H1 p1 h1 => ?_
  obtain ⟨i, rfl, p⟩ := Post.asInt (r := rx) p1
  obtain ⟨Hd, h⟩ := id h1
  exact ⟨i, rep_int (h.tmp _ List.mem_cons_self), p _ _ (Rel.flat h1.pop (flat_int _))⟩

/-! ### ==, in, is -/
def gEq (x y : R) : M R := do
  let d ← dat x
  let e ← dat y
  need (SeqAt.shaped d && SeqAt.shaped e)
  retB (PyData.eqv d e)
def gNe (x y : R) : M R := do
  let d ← dat x
  let e ← dat y
  need (SeqAt.shaped d && SeqAt.shaped e)
  retB (!PyData.eqv d e)
theorem do_eq : Does2 G W (rEqD G.K) gEq := by
  intro x y H Q σ ds ts rx ry h p
  obtain ⟨Hd, h⟩ := id h
  obtain ⟨d, hd, p⟩ := Post.dat (r := rx) p
  obtain ⟨e, he, p⟩ := Post.dat (r := ry) p
  obtain ⟨c, p⟩ := Post.need (b := _ && _) p
  have c := Bool.and_eq_true_iff.mp c
  have ry' := h.tmp _ List.mem_cons_self
  have rx' := h.tmp _ (List.mem_cons_of_mem _ List.mem_cons_self)
  exact ⟨d, e, (h.look rx' hd).dp (SeqAt.canLay_of_shaped c.1), (h.look ry' he).dp (SeqAt.canLay_of_shaped c.2), c.1, c.2, p _ H (Rel.flat ⟨Hd, h.pop.pop⟩ (flat_bl _))⟩
theorem do_ne : Does2 G W (rNeD G.K) gNe := by
  intro x y H Q σ ds ts rx ry h p
  obtain ⟨Hd, h⟩ := id h
  obtain ⟨d, hd, p⟩ := Post.dat (r := rx) p
  obtain ⟨e, he, p⟩ := Post.dat (r := ry) p
  obtain ⟨c, p⟩ := Post.need (b := _ && _) p
  have c := Bool.and_eq_true_iff.mp c
  have ry' := h.tmp _ List.mem_cons_self
  have rx' := h.tmp _ (List.mem_cons_of_mem _ List.mem_cons_self)
  exact ⟨d, e, (h.look rx' hd).dp (SeqAt.canLay_of_shaped c.1), (h.look ry' he).dp (SeqAt.canLay_of_shaped c.2), c.1, c.2, p _ H (Rel.flat ⟨Hd, h.pop.pop⟩ (flat_bl _))⟩
theorem de_eq {k : Nat} (hK : X.K = G.K) (hr : Room k X.A) (ha : PE X a (tD G W fa)) (hb : PE X b (tD G W fb)) : PE X (.Compare a [.Eq] [b] pos) (tD G W (do let x ← fa; let y ← fb; gEq x y)) :=
  de_cmp (hK ▸ op_eqD hr.units) do_eq (nobehind b (by decide) (by decide)) ha hb
theorem de_ne {k : Nat} (hK : X.K = G.K) (hr : Room k X.A) (ha : PE X a (tD G W fa)) (hb : PE X b (tD G W fb)) : PE X (.Compare a [.NotEq] [b] pos) (tD G W (do let x ← fa; let y ← fb; gNe x y)) :=
  de_cmp (hK ▸ op_neD hr.units) do_ne (nobehind b (by decide) (by decide)) ha hb
/-- data without objects -/
def flat : D → Bool
  | .none => true
  | .bool _ => true
  | .int _ => true
  | .str _ => true
  | _ => false
def inD (d : D) (es : List D) : Bool := es.any fun e => PyData.eqv e d
def seqOf : D → Option (List D)
  | .list es => some es
  | .tuple es => some es
  | .dict [(.none, .list es)] => some es
  | _ => none
theorem rep_flat {K : PySem.W.Frag} {H : Hp} {v : V} {d : D} (h : Rep K H v d) (f : flat d = true) : flatV v = true ∧ ∀ w e, Rep K H w e → flat e = true → eqV v w = PyData.eqv d e := by
  cases h with
  | non => exact ⟨rfl, fun w e he fe => by cases he <;> first | rfl | cases fe⟩
  | bl b => exact ⟨rfl, fun w e he fe => by cases he <;> first | rfl | cases fe⟩
  | int i => exact ⟨rfl, fun w e he fe => by cases he <;> first | rfl | cases fe⟩
  | str x => exact ⟨rfl, fun w e he fe => by cases he <;> first | rfl | cases fe⟩
  | _ => cases f
theorem rep_flats {K : PySem.W.Frag} {H : Hp} : ∀ {xs : List V} {es : List D}, RepAll K H xs es → es.all flat = true → xs.all flatV = true ∧ ∀ v d, Rep K H v d → flat d = true → inV v xs = inD d es
  | _, _, .nil, _ => ⟨rfl, fun _ _ _ _ => rfl⟩
  | _, _, .cons h r, f => by
    rw [List.all_cons, Bool.and_eq_true] at f
    obtain ⟨f1, f2⟩ := rep_flat h f.1
    obtain ⟨g1, g2⟩ := rep_flats r f.2
    refine ⟨by rw [List.all_cons, f1, g1]; rfl, fun v d hv hd => ?_⟩
    have e1 := f2 v d hv hd
    have e2 := g2 v d hv hd
    unfold inV inD at *
    rw [List.any_cons, List.any_cons, e1, e2]
theorem RepK.noNone {K : PySem.W.Frag} {H : Hp} : ∀ {ks : List (Key × V)} {kvs : List (D × D)}, RepK K H ks kvs → ∀ p ∈ kvs, p.1 ≠ .none
  | _, _, .nil, p, hp => by simp at hp
  | _, _, .cons (k := k) _ r, p, hp => by
    rcases List.mem_cons.mp hp with rfl | hp
    · intro z; cases k <;> cases z
    · exact RepK.noNone r p hp
theorem scr_of {K : PySem.W.Frag} {H : Hp} {v : V} {es : List D} (h : Rep K H v (scriptD es)) : ∃ a xs, v = .ref a ∧ SqL K H a xs ∧ RepAll K H xs es := by
  generalize hd : scriptD es = d at h
  cases h with
  | scr s q => cases hd; exact ⟨_, _, rfl, s, q⟩
  | dic s q => cases hd; exact absurd rfl (q.noNone _ List.mem_cons_self)
  | _ => cases hd
def gIn (neg : Bool) (x y : R) : M R := do
  let d ← dat x
  let e ← dat y
  match seqOf e with
  | some es => do need (flat d && es.all flat); retB (if neg then !inD d es else inD d es)
  | none => fail
theorem Rel0.seq {Hd : Hp} {ds : DS} {ts : List (R × V)} {σ : L2.St} {H : Hp} {r : R} {v : V} {d : D} {es : List D} (h : Rel0 G Hd ds ts σ H) (e : RepR G H Hd ds σ r v) (hd : dOf ds r = some d) (hs : seqOf d = some es) :
    ∃ a xs, v = .ref a ∧ (SqL G.K H a xs ∨ SqT G.K H a xs) ∧ RepAll G.K Hd xs es := by
  unfold seqOf at hs
  split at hs
  · cases hs
    obtain ⟨a, xs, e1, e2, e3⟩ := h.list e hd
    exact ⟨a, xs, e1, .inl (SqL.of e2), e3⟩
  · cases hs
    obtain ⟨a, xs, e1, e2, e3⟩ := h.tuple e hd
    exact ⟨a, xs, e1, .inr e2, e3⟩
  · cases hs
    obtain ⟨sv, e1, z⟩ := h.asS e hd
    cases sv with
    | dat d =>
      cases e1
      obtain ⟨a, xs, e1, e2, e3⟩ := scr_of (show Rep G.K Hd v (scriptD es) from z)
      exact ⟨a, xs, e1, .inl (Same.seq h.sub e2), e3⟩
    | own d =>
      cases e1
      obtain ⟨p, rfl, ⟨ks, e1, e2⟩, _⟩ := z
      exact absurd rfl (e2.noNone _ List.mem_cons_self)
    | lent d =>
      cases e1
      obtain ⟨p, rfl, ⟨ks, e1, e2⟩, _⟩ := z
      exact absurd rfl (e2.noNone _ List.mem_cons_self)
  · cases hs
end
end Den
/-! DenE: in, is, chains, tests, displays, items, slices -/
namespace Den
open PySem PySem.Spec PyProof.Rows L2
section
variable {X : Cx} {G : Gh} {W : L2.WX} {a b c e : Expr} {pos : Pos} {fa fb fc f : M R}
theorem do_in {neg : Bool} : Does2 G W (rIn G.K neg) (gIn neg) := by
  intro x y H Q σ ds ts rx ry h p
  obtain ⟨Hd, h⟩ := id h
  obtain ⟨d, hd, p⟩ := Post.dat (r := rx) p
  obtain ⟨e, he, p⟩ := Post.dat (r := ry) p
  have ry' := h.tmp _ List.mem_cons_self
  have rx' := h.tmp _ (List.mem_cons_of_mem _ List.mem_cons_self)
  cases hes : seqOf e with
  | none => simp only [hes] at p; exact p.elim
  | some es =>
    simp only [hes] at p
    obtain ⟨c, p⟩ := Post.need (b := _ && _) p
    have c := Bool.and_eq_true_iff.mp c
    obtain ⟨a, xs, e1, e2, e3⟩ := h.seq ry' he hes
    obtain ⟨f1, f2⟩ := rep_flats (e3.mono h.sub) c.2
    have hx := h.look rx' hd
    refine ⟨a, xs, e1, e2, (rep_flat hx c.1).1, f1, ?_⟩
    rw [f2 _ _ hx c.1]
    exact p _ H (Rel.flat ⟨Hd, h.pop.pop⟩ (flat_bl _))
theorem de_in (hK : X.K = G.K) (hm : behindInMarks .In b = false) (ha : PE X a (tD G W fa)) (hb : PE X b (tD G W fb)) : PE X (.Compare a [.In] [b] pos) (tD G W (do let x ← fa; let y ← fb; gIn false x y)) :=
  de_cmp (hK ▸ op_in_seq) do_in hm ha hb
theorem de_notIn (hK : X.K = G.K) (hm : behindInMarks .NotIn b = false) (ha : PE X a (tD G W fa)) (hb : PE X b (tD G W fb)) : PE X (.Compare a [.NotIn] [b] pos) (tD G W (do let x ← fa; let y ← fb; gIn true x y)) :=
  de_cmp (hK ▸ op_notIn_seq) do_in hm ha hb
def isNone : D → Bool
  | .none => true
  | _ => false
theorem rep_isNone {K : PySem.W.Frag} {H : Hp} {v : V} {d : D} (h : Rep K H v d) : decide (v = .non) = isNone d := by cases h <;> simp [isNone]
def gIsN (neg : Bool) (x y : R) : M R := do
  let d ← dat x
  match y with
  | .dat .none => retB (if neg then !isNone d else isNone d)
  | _ => fail
theorem do_isN {neg : Bool} : Does2 G W (fun x y H Q => y = .non ∧ Q (.bl (if neg then !decide (x = .non) else decide (x = .non))) H) (gIsN neg) := by
  intro x y H Q σ ds ts rx ry h p
  obtain ⟨Hd, h⟩ := id h
  obtain ⟨d, hd, p⟩ := Post.dat (r := rx) p
  split at p
  · refine ⟨rep_non (h.tmp _ List.mem_cons_self), ?_⟩
    rw [rep_isNone (h.look (h.tmp _ (List.mem_cons_of_mem _ List.mem_cons_self)) hd)]
    exact p _ H (Rel.flat ⟨Hd, h.pop.pop⟩ (flat_bl _))
  · exact p.elim
theorem de_isN (hm : behindInMarks .Is b = false) (ha : PE X a (tD G W fa)) (hb : PE X b (tD G W fb)) : PE X (.Compare a [.Is] [b] pos) (tD G W (do let x ← fa; let y ← fb; gIsN false x y)) :=
  de_cmp (r := fun x y H Q => y = .non ∧ Q (.bl (if false = true then !decide (x = .non) else decide (x = .non))) H) (fun pins s σ H x y v u Q I rx ry q => op_isN pins s σ H x y v u Q I rx ry q) do_isN hm ha hb
theorem de_notN (hm : behindInMarks .IsNot b = false) (ha : PE X a (tD G W fa)) (hb : PE X b (tD G W fb)) : PE X (.Compare a [.IsNot] [b] pos) (tD G W (do let x ← fa; let y ← fb; gIsN true x y)) :=
  de_cmp (r := fun x y H Q => y = .non ∧ Q (.bl (if true = true then !decide (x = .non) else decide (x = .non))) H) (fun pins s σ H x y v u Q I rx ry q => op_notN pins s σ H x y v u Q I rx ry q) do_isN hm ha hb
def gIsB (neg : Bool) (x y : R) : M R := match x, y with
  | .dat (.bool a), .dat (.bool b) => retB (if neg then !decide (a = b) else decide (a = b))
  | _, _ => fail
theorem do_isB {neg : Bool} : Does2 G W (fun x y H Q => ∃ a b, x = .bl a ∧ y = .bl b ∧ Q (.bl (if neg then !decide (a = b) else decide (a = b))) H) (gIsB neg) := by
  intro x y H Q σ ds ts rx ry h p
  obtain ⟨Hd, h⟩ := id h
  unfold gIsB at p
  split at p
  · exact ⟨_, _, rep_bool (h.tmp _ (List.mem_cons_of_mem _ List.mem_cons_self)), rep_bool (h.tmp _ List.mem_cons_self), p _ H (Rel.flat ⟨Hd, h.pop.pop⟩ (flat_bl _))⟩
  · exact p.elim
theorem de_isB (hm : behindInMarks .Is b = false) (ha : PE X a (tD G W fa)) (hb : PE X b (tD G W fb)) : PE X (.Compare a [.Is] [b] pos) (tD G W (do let x ← fa; let y ← fb; gIsB false x y)) :=
  de_cmp (r := fun x y H Q => ∃ a b, x = .bl a ∧ y = .bl b ∧ Q (.bl (if false = true then !decide (a = b) else decide (a = b))) H) (fun pins s σ H x y v u Q I rx ry q => op_is_bl pins s σ H x y v u Q I rx ry q) do_isB hm ha hb
theorem de_notB (hm : behindInMarks .IsNot b = false) (ha : PE X a (tD G W fa)) (hb : PE X b (tD G W fb)) : PE X (.Compare a [.IsNot] [b] pos) (tD G W (do let x ← fa; let y ← fb; gIsB true x y)) :=
  de_cmp (r := fun x y H Q => ∃ a b, x = .bl a ∧ y = .bl b ∧ Q (.bl (if true = true then !decide (a = b) else decide (a = b))) H) (fun pins s σ H x y v u Q I rx ry q => op_isnot_bl pins s σ H x y v u Q I rx ry q) do_isB hm ha hb

/-! ### a < b < c; and, or, not, if-else -/
/-- no new object: it may be used twice -/
def settle (r : R) : M R := match r with
  | .new d => pure (.dat d)
  | r => pure r
theorem Rel.settle {α : Type} {r : R} {v : V} {k : R → M α} {ds : DS} {ts : List (R × V)} {σ : L2.St} {H : Hp} {P : α → DS → Prop} {E : String → DS → Prop} (h : Rel G ds ((r, v) :: ts) σ H) (p : Post ((do let d ← Den.settle r; k d) ds) P E) :
    ∃ r', newAddr (r', v) = none ∧ Rel G ds ((r', v) :: ts) σ H ∧ Post (k r' ds) P E := by
  cases r with
  | dat d => exact ⟨_, rfl, h, p⟩
  | «at» i => exact ⟨_, rfl, h, p⟩
  | new d =>
    obtain ⟨Hd, h⟩ := h
    obtain ⟨Hd', h'⟩ := h.freezeN
    exact ⟨.dat d, rfl, ⟨Hd', h'⟩, p⟩
def chain (fa fb fc : M R) (g g' : R → R → M R) : M R := do
  let x ← fa
  let y ← fb
  let y ← settle y
  match ← g x y with
  | .dat (.bool true) => do let z ← fc; g' y z
  | .dat (.bool false) => retB false
  | _ => fail
theorem de_chain {op op' : CmpOp} {r r' : R2} {g g' : R → R → M R} (ho : OpR X (compareOp op) r) (hg : Does2 G W r g) (ho' : OpR X (compareOp op') r') (hg' : Does2 G W r' g') (ha : PE X a (tD G W fa)) (hb : PE X b (tD G W fb)) (hc : PE X c (tD G W fc))
    (hl : lastMarks [op, op'] [b, c] = false := by rfl) : PE X (.Compare a [op, op'] [b, c] pos) (tD G W (chain fa fb fc g g')) := pe_imp (pe_chain ho ho' ha hb hc hl) fun σ H Q q => by
  obtain ⟨ds, ts, h, p⟩ := q
  refine tD.go (k := fun x => pure x) h (Post.bind.mp p) fun rx ds1 x H1 p1 h1 => ?_
  refine tD.go (k := fun x => pure x) h1 ((Post.bind.mp p1).mono (fun _ _ z => z) fun _ _ z => z.push) fun ry0 ds2 y H2 p2 h2 => ?_
  obtain ⟨ry, nn, h2, p2⟩ := Rel.settle h2 p2
  obtain ⟨Hd2, h2'⟩ := id h2
  have h2d : Rel G ds2 ((ry, y) :: (rx, x) :: (ry, y) :: ts) σ H2 := ⟨Hd2, ((h2'.push h2'.top nn).perm (by
    exact List.Perm.cons _ (List.Perm.swap _ _ _)))⟩
  refine hg x y H2 _ σ ds2 ((ry, y) :: ts) rx ry h2d ((Post.bind.mp p2).mono (fun rz ds3 p3 z H3 h3 => ?_) fun _ _ z => z.push)
  split at p3
  · obtain ⟨Hd, h3'⟩ := id h3
    refine ⟨true, rep_bool (h3'.tmp _ List.mem_cons_self), ?_⟩
    rw [if_pos rfl]
    refine tD.go (k := fun x => pure x) h3.pop ((Post.bind.mp p3).mono (fun _ _ z => z) fun _ _ z => z.push) fun rw' ds4 w H4 p4 h4 => ?_
    exact hg' y w H4 Q σ ds4 ts ry rw' h4 p4
  · obtain ⟨Hd, h3'⟩ := id h3
    refine ⟨false, rep_bool (h3'.tmp _ List.mem_cons_self), ?_⟩
    rw [if_neg Bool.false_ne_true]
    exact p3 _ _ (Rel.flat h3.pop.pop (flat_bl _))
  · exact p3.elim
def asBool (r : R) : M Bool := match r with
  | .dat (.bool b) => pure b
  | _ => fail
theorem Post.asBool {α : Type} {r : R} {k : Bool → M α} {ds : DS} {P : α → DS → Prop} {E : String → DS → Prop} (h : Post ((do let d ← asBool r; k d) ds) P E) : ∃ i, r = .dat (.bool i) ∧ Post (k i ds) P E := by
  unfold Den.asBool at h
  split at h
  · exact ⟨_, rfl, h⟩
  · exact (Post.bind.mp h).elim
def andD (fa fb : M R) : M R := do
  let x ← fa
  let c ← asBool x
  if c then fb else retB false
def orD (fa fb : M R) : M R := do
  let x ← fa
  let c ← asBool x
  if c then retB true else fb
variable {rest : List Expr}
theorem de_and (ha : PE X a (tD G W fa)) (hb : PE X (.BoolOp .And (b :: rest) pos) (tD G W fb)) : PE X (.BoolOp .And (a :: b :: rest) pos) (tD G W (andD fa fb)) := pe_imp (pe_and ha hb) fun σ H Q q => by
  obtain ⟨ds, ts, h, p⟩ := q
  refine tD.go (k := fun x => pure x) h (Post.bind.mp p) fun rx ds1 x H1 p1 h1 => ?_
  obtain ⟨c, rfl, p⟩ := Post.asBool (r := rx) p1
  obtain ⟨Hd, h1'⟩ := id h1
  refine ⟨c, rep_bool (h1'.tmp _ List.mem_cons_self), ?_⟩
  cases c with
  | true =>
    rw [if_pos rfl] at p ⊢
    exact ⟨ds1, ts, h1.pop, p⟩
  | false =>
    rw [if_neg Bool.false_ne_true] at p ⊢
    exact p _ _ (Rel.flat h1.pop (flat_bl _))
theorem de_or (ha : PE X a (tD G W fa)) (hb : PE X (.BoolOp .Or (b :: rest) pos) (tD G W fb)) : PE X (.BoolOp .Or (a :: b :: rest) pos) (tD G W (orD fa fb)) := pe_imp (pe_or ha hb) fun σ H Q q => by
  obtain ⟨ds, ts, h, p⟩ := q
  refine tD.go (k := fun x => pure x) h (Post.bind.mp p) fun rx ds1 x H1 p1 h1 => ?_
  obtain ⟨c, rfl, p⟩ := Post.asBool (r := rx) p1
  obtain ⟨Hd, h1'⟩ := id h1
  refine ⟨c, rep_bool (h1'.tmp _ List.mem_cons_self), ?_⟩
  cases c with
  | true =>
    rw [if_pos rfl] at p ⊢
    exact p _ _ (Rel.flat h1.pop (flat_bl _))
  | false =>
    rw [if_neg Bool.false_ne_true] at p ⊢
    exact ⟨ds1, ts, h1.pop, p⟩
theorem de_one {op} (ha : PE X a (tD G W fa)) : PE X (.BoolOp op [a] pos) (tD G W fa) := pe_one ha
theorem de_not (ha : PE X a (tD G W fa)) : PE X (.UnaryOp .Not a pos) (tD G W (do let x ← fa; let c ← asBool x; retB (!c))) := pe_imp (pe_not ha) fun σ H Q q => by
  obtain ⟨ds, ts, h, p⟩ := q
  refine tD.go (k := fun x => pure x) h (Post.bind.mp p) fun rx ds1 x H1 p1 h1 => ?_
  obtain ⟨c, rfl, p⟩ := Post.asBool (r := rx) p1
  obtain ⟨Hd, h1'⟩ := id h1
  exact ⟨c, rep_bool (h1'.tmp _ List.mem_cons_self), p _ _ (Rel.flat h1.pop (flat_bl _))⟩

/-! ### tests -/
variable {ca cb : M Bool}
theorem dt_val (ha : PE X a (tD G W fa)) (he : ∀ whole, isTrue a X.env whole = (do let v ← whole; standAt a.pos; holding [v] (truthy v)) := by intro _; rfl) : PT X a (tT G W (do let x ← fa; asBool x)) := pt_imp (pt_val ha he) fun σ H Q q => by
  obtain ⟨ds, ts, h, p⟩ := q
  refine tD.go (k := fun x => pure x) h (Post.bind.mp p) fun rx ds1 x H1 p1 h1 => ?_
  unfold asBool at p1
  split at p1
  · obtain ⟨Hd, h1'⟩ := id h1
    exact ⟨_, rep_bool (h1'.tmp _ List.mem_cons_self), p1 _ h1.pop⟩
  · exact p1.elim
theorem dt_not (ha : PT X a (tT G W ca)) : PT X (.UnaryOp .Not a pos) (tT G W (do let c ← ca; pure (!c))) := pt_imp (pt_not ha) fun σ H Q q => by
  obtain ⟨ds, ts, h, p⟩ := q
  exact tT.go h (Post.bind.mp p) fun c ds1 H1 p1 h1 => p1 _ h1
def andT (ca cb : M Bool) : M Bool := do
  let c ← ca
  if c then cb else pure false
def orT (ca cb : M Bool) : M Bool := do
  let c ← ca
  if c then pure true else cb
theorem dw_and (ha : PT X a (tT G W ca)) (hb : PW X (.BoolOp .And (b :: rest) pos) (tT G W cb)) : PW X (.BoolOp .And (a :: b :: rest) pos) (tT G W (andT ca cb)) := pw_imp (pw_and ha hb) fun σ H Q q => by
  obtain ⟨ds, ts, h, p⟩ := q
  refine tT.go h (Post.bind.mp p) fun c ds1 H1 p1 h1 => ?_
  cases c with
  | true => exact ⟨ds1, ts, h1, p1⟩
  | false => exact p1 _ h1
theorem dw_or (ha : PT X a (tT G W ca)) (hb : PW X (.BoolOp .Or (b :: rest) pos) (tT G W cb)) : PW X (.BoolOp .Or (a :: b :: rest) pos) (tT G W (orT ca cb)) := pw_imp (pw_or ha hb) fun σ H Q q => by
  obtain ⟨ds, ts, h, p⟩ := q
  refine tT.go h (Post.bind.mp p) fun c ds1 H1 p1 h1 => ?_
  cases c with
  | true => exact p1 _ h1
  | false => exact ⟨ds1, ts, h1, p1⟩
theorem de_ifExp (hc : PT X c (tT G W ca)) (ha : PE X a (tD G W fa)) (hb : PE X b (tD G W fb)) : PE X (.IfExp c a b pos) (tD G W (do let k ← ca; if k then fa else fb)) := pe_imp (pe_ifExp hc ha hb) fun σ H Q q => by
  obtain ⟨ds, ts, h, p⟩ := q
  refine tT.go h (Post.bind.mp p) fun c ds1 H1 p1 h1 => ?_
  cases c with
  | true => exact ⟨ds1, ts, h1, p1⟩
  | false => exact ⟨ds1, ts, h1, p1⟩

/-! ### displays -/
def frz (r : R) : M D := match r with
  | .dat d => pure d
  | .new d => pure d
  | .at i => fun ds => match ds[i]? with
    | some (some (.dat d)) => some (.ok d ds)
    | some (some (.own d)) => some (.ok d (ds.set i (some (.dat d))))
    | _ => none
theorem Rel.frz1 {α : Type} {r : R} {v : V} {k : D → M α} {ds : DS} {ts : List (R × V)} {σ : L2.St} {H : Hp} {P : α → DS → Prop} {E : String → DS → Prop} (h : Rel G ds ((r, v) :: ts) σ H) (p : Post ((do let d ← frz r; k d) ds) P E) :
    ∃ d ds', Rel G ds' ((.dat d, v) :: ts) σ H ∧ Post (k d ds') P E := by
  obtain ⟨Hd, h⟩ := h
  cases r with
  | dat d => exact ⟨d, ds, ⟨Hd, h⟩, p⟩
  | new d =>
    obtain ⟨Hd', h'⟩ := h.freezeN
    exact ⟨d, ds, ⟨Hd', h'⟩, p⟩
  | «at» i =>
    have p := Post.bind.mp p
    unfold Den.frz at p
    obtain ⟨e1, sv, e2⟩ := h.top
    simp only [e2] at p
    cases sv with
    | dat d =>
      obtain ⟨v', h1, h2⟩ := h.slo i _ e2
      rw [e1] at h1; cases h1
      exact ⟨d, ds, ⟨Hd, h.pop.pushD h2⟩, p⟩
    | own d =>
      obtain ⟨Hd', v', h1, h2⟩ := h.pop.freezeS e2
      rw [e1] at h1; cases h1
      exact ⟨d, _, ⟨Hd', h2⟩, p⟩
    | lent d => exact p.elim
def frzAll : List R → M (List D)
  | [] => pure []
  | r :: rs => do let d ← frz r; let ds ← frzAll rs; pure (d :: ds)
theorem Rel.frzA : ∀ {rs : List R} {vs : List V} {α : Type} {k : List D → M α} {ds : DS} {ts : List (R × V)} {σ : L2.St} {H : Hp} {P : α → DS → Prop} {E : String → DS → Prop}, vs.length = rs.length → Rel G ds (rs.zip vs ++ ts) σ H → Post ((do let d ← frzAll rs; k d) ds) P E →
    ∃ es ds', (∃ Hd, Rel0 G Hd ds' ts σ H ∧ RepAll G.K Hd vs es) ∧ es.length = rs.length ∧ Post (k es ds') P E
  | [], [], _, k, ds, ts, σ, H, P, E, _, ⟨Hd, h⟩, p => ⟨[], ds, ⟨Hd, h, .nil⟩, rfl, p⟩
  | r :: rs, v :: vs, _, k, ds, ts, σ, H, P, E, hl, h, p => by
    have p : Post ((do let d ← frz r; (do let es ← frzAll rs; k (d :: es))) ds) P E := by
      have p1 := Post.bind.mp p
      unfold frzAll at p1
      have p2 := Post.bind.mp p1
      refine Post.bind.mpr (p2.mono (fun d s q => ?_) fun _ _ z => z)
      exact Post.bind.mpr ((Post.bind.mp q).mono (fun _ _ z => z) fun _ _ z => z)
    obtain ⟨d, ds1, h1, p1⟩ := Rel.frz1 (ts := rs.zip vs ++ ts) h p
    have h1' : Rel G ds1 (rs.zip vs ++ ((.dat d, v) :: ts)) σ H := h1.perm List.perm_middle
    obtain ⟨es, ds2, ⟨Hd, h2, r2⟩, hl2, p2⟩ := Rel.frzA (by simpa using hl) h1' p1
    exact ⟨d :: es, ds2, ⟨Hd, h2.pop, .cons (h2.tmp (.dat d, v) List.mem_cons_self) r2⟩, by simp [hl2], p2⟩
  | [], _ :: _, _, _, _, _, _, _, _, _, hl, _, _ => by simp at hl
  | _ :: _, [], _, _, _, _, _, _, _, _, hl, _, _ => by simp at hl
variable {es : List Expr} {fr : M (List R)}
theorem da_nil : PA X [] (tA G W (pure [])) := pa_imp pa_nil fun σ H Q q => by
  obtain ⟨ds, ts, h, p⟩ := q
  exact p [] H rfl h
theorem da_cons (ha : PE X a (tD G W fa)) (hr : PA X es (tA G W fr)) (hs : starEach (a :: es) X.env = (false, eval a X.env) :: starEach es X.env := by rfl) : PA X (a :: es) (tA G W (do let x ← fa; let xs ← fr; pure (x :: xs))) := pa_imp (pa_cons ha hr hs) fun σ H Q q => by
  obtain ⟨ds, ts, h, p⟩ := q
  refine tD.go (k := fun x => pure x) h (Post.bind.mp p) fun rx ds1 x H1 p1 h1 => ?_
  refine tA.go h1 ((Post.bind.mp p1).mono (fun _ _ z => z) fun _ _ z => z.push) fun rs ds2 vs H2 p2 hl h2 => ?_
  exact p2 (x :: vs) H2 (by simp [hl]) (h2.perm List.perm_middle.symm)
def mkT (rs : List R) : M R := do
  lenOk rs.length
  let es ← frzAll rs
  pure (.dat (.tuple es))
def mkL (rs : List R) : M R := do
  lenOk rs.length
  let es ← frzAll rs
  newL es
theorem de_tup {x1} (h : PA X es (tA G W fr)) : PE X (.Tuple es x1 pos) (tD G W (do let rs ← fr; mkT rs)) := pe_imp (pe_tup h) fun σ H Q q => by
  obtain ⟨ds, ts, h, p⟩ := q
  refine tA.go h (Post.bind.mp p) fun rs ds1 vs H1 p1 hl h1 => ?_
  obtain ⟨c, p1⟩ := Post.need (b := decide _) p1
  obtain ⟨es, ds2, h2, hl2, p2⟩ := Rel.frzA hl h1 p1
  exact ⟨sizeLine16 (by rw [hl]; exact c), fun p' np => p2 _ _ (Rel.newT h2 np)⟩
theorem de_lst (h : PA X es (tA G W fr)) : PE X (.List es pos) (tD G W (do let rs ← fr; mkL rs)) := pe_imp (pe_lst h) fun σ H Q q => by
  obtain ⟨ds, ts, h, p⟩ := q
  refine tA.go h (Post.bind.mp p) fun rs ds1 vs H1 p1 hl h1 => ?_
  obtain ⟨c, p1⟩ := Post.need (b := decide _) p1
  obtain ⟨es, ds2, h2, hl2, p2⟩ := Rel.frzA hl h1 p1
  exact ⟨sizeLine16 (by rw [hl]; exact c), fun p' np => p2 _ _ (Rel.newL h2 np)⟩

end
end Den
/-! DenF: items, slices, built-ins, methods -/
namespace Den
open PySem PySem.Spec PyProof.Rows L2
section
variable {X : Cx} {G : Gh} {W : L2.WX} {a b c e : Expr} {pos : Pos} {fa fb fc f : M R} {es : List Expr} {fr : M (List R)}
/-! ### dicts as data -/
def keyOf : D → Option Key
  | .int i => some (.inl i)
  | .str s => some (.inr s)
  | _ => none
theorem keyOf_kD (k : Key) : keyOf (kD k) = some k := by cases k <;> rfl
theorem kD_inj {k j : Key} (h : kD k = kD j) : k = j := by
  have := congrArg keyOf h
  rw [keyOf_kD, keyOf_kD] at this
  exact Option.some.inj this
def lookD (k : D) : List (D × D) → Option D
  | [] => none
  | p :: r => if PyData.eqv p.1 k then some p.2 else lookD k r
theorem eqv_kD (k j : Key) : PyData.eqv (kD k) (kD j) = decide (k = j) := by
  cases k <;> cases j <;> simp [kD, PyData.eqv] <;> first | rfl | exact Bool.beq_eq_decide_eq _ _
def putD (k v : D) (kvs : List (D × D)) : List (D × D) :=
  if (kvs.any fun p => PyData.eqv p.1 k) = true then kvs.map (fun p => if PyData.eqv p.1 k = true then (p.1, v) else p) else kvs ++ [(k, v)]
section
variable {K : PySem.W.Frag} {H : Hp}
theorem RepK.look {k : Key} : ∀ {ks : List (Key × V)} {kvs : List (D × D)}, RepK K H ks kvs → (valV ks k = none ∧ lookD (kD k) kvs = none) ∨ ∃ v d, valV ks k = some v ∧ lookD (kD k) kvs = some d ∧ Rep K H v d
  | _, _, .nil => .inl ⟨rfl, rfl⟩
  | _, _, .cons (k := j) (v := v) (vs := vs) (d := d) (ds := ds) h r => by
    by_cases e : j = k
    · refine .inr ⟨v, d, valV_pos (p := (j, v)) e, ?_, h⟩
      show (if PyData.eqv (kD j) (kD k) = true then some d else lookD (kD k) ds) = some d
      rw [eqv_kD, if_pos (by simpa using e)]
    · rw [valV_neg (p := (j, v)) e]
      have : lookD (kD k) ((kD j, d) :: ds) = lookD (kD k) ds := by
        show (if PyData.eqv (kD j) (kD k) = true then some d else lookD (kD k) ds) = _
        rw [eqv_kD, if_neg (by simpa using e)]
      rw [this]
      exact RepK.look r
theorem RepK.length : ∀ {ks : List (Key × V)} {kvs : List (D × D)}, RepK K H ks kvs → ks.length = kvs.length
  | _, _, .nil => rfl
  | _, _, .cons _ r => congrArg (· + 1) (RepK.length r)
theorem RepK.append : ∀ {ks ks' : List (Key × V)} {kvs kvs' : List (D × D)}, RepK K H ks kvs → RepK K H ks' kvs' → RepK K H (ks ++ ks') (kvs ++ kvs')
  | _, _, _, _, .nil, s => s
  | _, _, _, _, .cons h r, s => .cons h (RepK.append r s)
theorem RepK.mapPut {k : Key} {v : V} {d : D} (hv : Rep K H v d) : ∀ {ks : List (Key × V)} {kvs : List (D × D)}, RepK K H ks kvs →
    RepK K H (ks.map (fun kv => if kv.1 = k then (kv.1, v) else kv)) (kvs.map (fun p => if PyData.eqv p.1 (kD k) = true then (p.1, d) else p))
  | _, _, .nil => .nil
  | _, _, .cons (k := j) (v := v') (d := d') h r => by
    rw [List.map_cons, List.map_cons]
    have ih := RepK.mapPut (k := k) hv r
    by_cases e : j = k
    · rw [if_pos e, if_pos (by rw [eqv_kD]; simpa using e)]
      exact .cons hv ih
    · rw [if_neg e, if_neg (by rw [eqv_kD]; simpa using e)]
      exact .cons h ih
theorem RepK.any {k : Key} : ∀ {ks : List (Key × V)} {kvs : List (D × D)}, RepK K H ks kvs → (ks.any fun kv => decide (kv.1 = k)) = (kvs.any fun p => PyData.eqv p.1 (kD k))
  | _, _, .nil => rfl
  | _, _, .cons h r => by rw [List.any_cons, List.any_cons, RepK.any r, eqv_kD]
theorem RepK.put {k : Key} {v : V} {d : D} (hv : Rep K H v d) {ks : List (Key × V)} {kvs : List (D × D)} (h : RepK K H ks kvs) : RepK K H (putK ks k v) (putD (kD k) d kvs) := by
  unfold putK putD
  rw [h.any]
  split
  · exact h.mapPut hv
  · exact h.append (.cons hv .nil)
theorem rep_key {v : V} {d : D} {k : Key} (h : Rep K H v d) (e : keyOf d = some k) : v = kV k ∧ d = kD k := by
  cases h <;> first | cases e
  · exact ⟨rfl, rfl⟩
  · exact ⟨rfl, rfl⟩
end
theorem Rel0.dict {Hd : Hp} {ds : DS} {ts : List (R × V)} {σ : L2.St} {H : Hp} {r : R} {v : V} {kvs : List (D × D)} (h : Rel0 G Hd ds ts σ H) (e : RepR G H Hd ds σ r v) (hd : dOf ds r = some (.dict kvs)) (hs : seqOf (.dict kvs) = none) :
    ∃ a ks, v = .ref a ∧ H a = some (.dK ks) ∧ RepK G.K Hd ks kvs := by
  have nos : ∀ {K H v}, Rep K H v (.dict kvs) → ∃ a ks, v = .ref a ∧ H a = some (.dK ks) ∧ RepK K H ks kvs := fun {K H v} h => by
    generalize hq : PyData.dict kvs = q at h
    cases h with
    | dic s q => cases hq; exact ⟨_, _, rfl, s, q⟩
    | scr s q => cases hq; cases hs
    | _ => cases hq
  obtain ⟨sv, e1, z⟩ := h.asS e hd
  cases sv with
  | dat d =>
    cases e1
    obtain ⟨a, ks, e1, e2, e3⟩ := nos (show Rep G.K Hd v (.dict kvs) from z)
    exact ⟨a, ks, e1, h.sub _ _ e2, e3⟩
  | own d => cases e1; obtain ⟨p, rfl, ⟨ks, e1, e2⟩, _⟩ := z; exact ⟨p, ks, rfl, e1, e2⟩
  | lent d => cases e1; obtain ⟨p, rfl, ⟨ks, e1, e2⟩, _⟩ := z; exact ⟨p, ks, rfl, e1, e2⟩

/-! ### items -/
theorem ix_dict (hu : X.A.units + 1 < cLine) : IxR X (fun x y H Q => ∃ a v, x = .ref a ∧ DGet H a y (some v) ∧ Q v H) := by
  intro value slice pins s σ H x y v u Q I rx ry h hs
  obtain ⟨a, z, rfl, g, q⟩ := h
  cases rx
  exact tail_any (dict_typeIs I g) PySem.F.slot_dict_getitem.lookup (d_getItem hu I g ry fun w' s3 I3 rw' => ⟨z, H, I3, rw', q⟩) hs
def gIx (x y : R) : M R := do
  let d ← dat x
  let e ← dat y
  match seqOf d with
  | some es => match e with
    | .int i => match atI es i with
      | some r => pure (.dat r)
      | none => fail
    | _ => fail
  | none => match d with
    | .dict kvs => match keyOf e with
      | some k => match lookD (kD k) kvs with
        | some r => pure (.dat r)
        | none => fail
      | none => fail
    | .str z => match e with
      | .int i => do
        lenOk z.length
        match atI z.cps.toList i with
        | some c => pure (.dat (.str ⟨#[c]⟩))
        | none => fail
      | _ => fail
    | _ => fail
theorem atI_rep {K : PySem.W.Frag} {H : Hp} {xs : List V} {es : List D} {i : Int} {d : D} (h : RepAll K H xs es) (e : atI es i = some d) : ∃ v, atI xs i = some v ∧ Rep K H v d := by
  unfold atI at *
  rw [h.length]
  cases hj : ixN es.length i with
  | none => rw [hj] at e; cases e
  | some j => rw [hj] at e; exact h.get e
theorem do_ix : Does2 G W (fun x y H Q => rIx G.K x y H Q ∨ ∃ a v, x = .ref a ∧ DGet H a y (some v) ∧ Q v H) gIx := by
  intro x y H Q σ ds ts rx ry h p
  obtain ⟨Hd, h⟩ := id h
  obtain ⟨d, hd, p⟩ := Post.dat (r := rx) p
  obtain ⟨e, he, p⟩ := Post.dat (r := ry) p
  have ry' := h.tmp _ List.mem_cons_self
  have rx' := h.tmp _ (List.mem_cons_of_mem _ List.mem_cons_self)
  cases hs : seqOf d with
  | some es =>
    simp only [hs] at p
    cases e with
    | int i =>
      cases ha : atI es i with
      | none => simp only [ha] at p; exact p.elim
      | some r =>
        simp only [ha] at p
        obtain ⟨a, xs, e1, e2, e3⟩ := h.seq rx' hd hs
        have ey : y = .int i := rep_int (h.look ry' he)
        obtain ⟨v, hv, rv⟩ := atI_rep e3 ha
        have fin := p v H ⟨Hd, h.pop.pop.pushD rv⟩
        rcases e2 with e2 | e2
        · exact .inl (.inl ⟨a, xs, i, v, e1, ey, e2, hv, fin⟩)
        · exact .inl (.inr (.inl ⟨a, xs, i, v, e1, ey, e2, hv, fin⟩))
    | _ => exact p.elim
  | none =>
    simp only [hs] at p
    cases d with
    | dict kvs =>
      cases hk : keyOf e with
      | none => simp only [hk] at p; exact p.elim
      | some k =>
        simp only [hk] at p
        cases hl : lookD (kD k) kvs with
        | none => simp only [hl] at p; exact p.elim
        | some r =>
          simp only [hl] at p
          obtain ⟨a, ks, e1, e2, e3⟩ := h.dict rx' hd hs
          obtain ⟨ey, _⟩ := rep_key (h.look ry' he) hk
          rcases e3.look (k := k) with ⟨_, q⟩ | ⟨v, d', q1, q2, q3⟩
          · rw [hl] at q; cases q
          · rw [hl] at q2; cases q2
            exact .inr ⟨a, v, e1, by rw [show y = kV k from ey, ← q1]; exact DGet.k e2, p v H ⟨Hd, h.pop.pop.pushD q3⟩⟩
    | str z =>
      cases e with
      | int i =>
        obtain ⟨c, p⟩ := Post.need (b := decide _) p
        cases ha : atI z.cps.toList i with
        | none => simp only [ha] at p; exact p.elim
        | some r =>
          simp only [ha] at p
          have ex : x = .str z := rep_str (h.look rx' hd)
          have ey : y = .int i := rep_int (h.look ry' he)
          exact .inl (.inr (.inr ⟨z, i, r, ex, ey, sizeLine16 c, ha, p _ H (Rel.flat ⟨Hd, h.pop.pop⟩ (flat_str _))⟩))
      | _ => exact p.elim
    | _ => exact p.elim
theorem de_ix {k : Nat} (hK : X.K = G.K) (hr : Room k X.A) (ha : PE X a (tD G W fa)) (hb : PE X b (tD G W fb)) (hs : PlainIx b) : PE X (.Subscript a b pos) (tD G W (do let x ← fa; let y ← fb; gIx x y)) :=
  pe_imp (pe_ix (IxR.or (hK ▸ ix_seq) (ix_dict (by have := hr.units; omega))) ha hb hs) fun _ _ _ q => tOp_of do_ix q

/-! ### slices -/
def cutD {α : Type} (xs : List α) (lo hi : Option Int) : List α := (xs.drop (HT.sIx xs.length 0 lo)).take (HT.sIx xs.length xs.length hi - HT.sIx xs.length 0 lo)
theorem cut_rep {K : PySem.W.Frag} {H : Hp} {xs : List V} {es : List D} (h : RepAll K H xs es) (lo hi : Option Int) : RepAll K H (cutV xs lo hi) (cutD es lo hi) := by
  unfold cutV cutD
  rw [h.length]
  exact (h.drop _).take _
def gSl (x : R) (lo hi : Option Int) : M R := do
  let d ← dat x
  match d with
  | .list es => newL (cutD es lo hi)
  | .tuple es => pure (.dat (.tuple (cutD es lo hi)))
  | .str z => do lenOk z.length; pure (.dat (.str (cutS z lo hi)))
  | _ => fail
variable {lo hi : Option Expr} {fl fh : M (Option Int)} {p2 : Pos}
theorem do_none : PO X none (tO G W (pure none)) := po_imp po_none fun σ H Q q => by
  obtain ⟨ds, ts, h, p⟩ := q
  exact p H h
theorem do_some (ha : PE X a (tD G W fa)) : PO X (some a) (tO G W (do let x ← fa; let i ← asInt x; pure (some i))) := po_imp (po_some ha) fun σ H Q q => by
  obtain ⟨ds, ts, h, p⟩ := q
  refine tD.go (k := fun x => pure x) h (Post.bind.mp p) fun rx ds1 x H1 p1 h1 => ?_
  obtain ⟨i, rfl, p⟩ := Post.asInt (r := rx) p1
  obtain ⟨Hd, h⟩ := id h1
  exact ⟨i, rep_int (h.tmp _ List.mem_cons_self), p _ h1.pop⟩
theorem de_slice (hK : X.K = G.K) (ha : PE X a (tD G W fa)) (hl : PO X lo (tO G W fl)) (hh : PO X hi (tO G W fh)) : PE X (.Subscript a (.Slice lo hi none p2) pos) (tD G W (do let x ← fa; let l ← fl; let u ← fh; gSl x l u)) :=
  pe_imp (pe_slice (SlR.or sl_list (SlR.or (hK ▸ sl_tupA) sl_str)) ha hl hh) fun σ H Q q => by
    obtain ⟨ds, ts, h, p⟩ := q
    refine tD.go (k := fun x => pure x) h (Post.bind.mp p) fun rx ds1 x H1 p1 h1 => ?_
    refine tO.go h1 ((Post.bind.mp p1).mono (fun _ _ z => z) fun _ _ z => z.push) fun l ds2 H2 p2 h2 => ?_
    refine tO.go h2 ((Post.bind.mp p2).mono (fun _ _ z => z) fun _ _ z => z.push) fun u ds3 H3 p3 h3 => ?_
    obtain ⟨Hd, h⟩ := id h3
    obtain ⟨d, hd, p⟩ := Post.dat (r := rx) p3
    have rx' := h.tmp _ List.mem_cons_self
    split at p
    · rename_i es
      obtain ⟨a', xs, e1, s1, r1⟩ := h.list rx' hd
      exact .inl ⟨a', xs, e1, SqL.of s1, fun p' np => p _ _ (Rel.newL ⟨Hd, h.pop, cut_rep r1 l u⟩ np)⟩
    · rename_i es
      obtain ⟨a', xs, e1, s1, r1⟩ := h.tuple rx' hd
      refine .inr (.inl ⟨a', xs, e1, s1, fun z => ?_, fun _ p' np => p _ _ (Rel.newT ⟨Hd, h.pop, cut_rep r1 l u⟩ np)⟩)
      refine p _ _ ⟨Hd, h.pop.pushD ?_⟩
      have e : cutD es l u = es := by
        unfold cutD
        rw [← r1.length, z.1, z.2, List.drop_zero, Nat.sub_zero, r1.length, List.take_length]
      rw [e, ← e1]
      exact h.tupRep rx' hd
    · rename_i z
      obtain ⟨c, p⟩ := Post.need (b := decide _) p
      exact .inr (.inr ⟨z, rep_str (h.look rx' hd), sizeLine16 c, p _ _ (Rel.flat h3.pop (flat_str _))⟩)
    · exact p.elim

/-! ### built-ins -/
def DoesN (G : Gh) (W : L2.WX) (r : List V → Hp → VK → Prop) (g : List R → M R) : Prop := ∀ vs H (Q : VK) σ ds ts (rs : List R), vs.length = rs.length → Rel G ds (rs.zip vs ++ ts) σ H → pD G W (g rs ds) ts σ Q → r vs H Q
theorem tCB_of {r : List V → Hp → VK → Prop} {g : List R → M R} (hg : DoesN G W r g) {σ : L2.St} {H : Hp} {Q : VK} (q : tD G W (do let rs ← fr; g rs) σ H Q) : tCB r (tA G W fr) σ H Q := by
  obtain ⟨ds, ts, h, p⟩ := q
  exact tA.go h (Post.bind.mp p) fun rs ds1 vs H1 p1 hl h1 => hg vs H1 Q σ ds1 ts rs hl h1 p1
theorem CallR.or {f : Value} {r r' : List V → Hp → VK → Prop} (h : CallR X f r) (h' : CallR X f r') : CallR X f (fun xs H Q => r xs H Q ∨ r' xs H Q) :=
  fun pins s σ H xs us Q I rx q => q.elim (h pins s σ H xs us Q I rx) (h' pins s σ H xs us Q I rx)
theorem de_callB {id : String} {x : Str} {p : Pos} {r : List V → Hp → VK → Prop} {g : List R → M R} (hc : CallR X (.builtin id) r) (hd : DoesN G W r g) (hg : Gl X x) (hm : X.mg x = none) (hv : bootBuiltins x = some (.builtin id)) (ha : PA X (e :: es) (tA G W fr))
    (hn : x ≠ "__name__" := by decide) (hdb : (x == ("__debug__" : Str)) = false := by decide)
    (he : starEach (e :: es) X.env = (false, eval e X.env) :: starEach es X.env := by rfl) (hpl : (backTo pos (starEach es X.env)).any (·.1) = false := by rfl) : PE X (.Call (.Name x p) (e :: es) [] pos) (tD G W (do let rs ← fr; g rs)) :=
  pe_imp (pe_callB hc hg hm hv ha hn hdb he hpl) fun _ _ _ q => tCB_of hd q
theorem de_callTy {T : String} {x : Str} {p : Pos} {r : List V → Hp → VK → Prop} {g : List R → M R} (hc : CallR X (.type T) r) (hd : DoesN G W r g) (hg : Gl X x) (hm : X.mg x = none) (hv : bootBuiltins x = some (.type T)) (ha : PA X (e :: es) (tA G W fr))
    (hn : x ≠ "__name__" := by decide) (hdb : (x == ("__debug__" : Str)) = false := by decide)
    (he : starEach (e :: es) X.env = (false, eval e X.env) :: starEach es X.env := by rfl) (hpl : (backTo pos (starEach es X.env)).any (·.1) = false := by rfl) : PE X (.Call (.Name x p) (e :: es) [] pos) (tD G W (do let rs ← fr; g rs)) :=
  pe_imp (pe_callTy hc hg hm hv ha hn hdb he hpl) fun _ _ _ q => tCB_of hd q
def one (rs : List R) : M R := match rs with
  | [r] => pure r
  | _ => fail
theorem one_of {rs : List R} {vs : List V} {α : Type} {k : R → M α} {ds : DS} {P : α → DS → Prop} {E : String → DS → Prop} (hl : vs.length = rs.length) (p : Post ((do let r ← one rs; k r) ds) P E) : ∃ r v, rs = [r] ∧ vs = [v] ∧ Post (k r ds) P E := by
  match rs, vs, hl, p with
  | [r], [v], _, p => exact ⟨r, v, rfl, rfl, p⟩
  | [], _, _, p => exact (Post.bind.mp p).elim
  | _ :: _ :: _, _, _, p => exact (Post.bind.mp p).elim
/-- one value to flat data -/
def gAbs (rs : List R) : M R := do
  let r ← one rs
  let i ← asInt r
  retI (if i < 0 then -i else i)
theorem do_abs : DoesN G W (fun xs H Q => ∃ i, xs = [.int i] ∧ Q (.int (if i < 0 then -i else i)) H) gAbs := by
  intro vs H Q σ ds ts rs hl h p
  obtain ⟨r, v, rfl, rfl, p⟩ := one_of hl p
  obtain ⟨i, rfl, p⟩ := Post.asInt (r := r) p
  obtain ⟨Hd, h'⟩ := id h
  exact ⟨i, by rw [show v = .int i from rep_int (h'.tmp (.dat (.int i), v) List.mem_cons_self)], p _ _ (Rel.flat h.pop (flat_int _))⟩
def gInt (rs : List R) : M R := do
  let r ← one rs
  match r with
  | .dat (.int i) => retI i
  | .dat (.bool b) => retI (if b then 1 else 0)
  | _ => fail
theorem do_int : DoesN G W (fun xs H Q => (∃ i, xs = [.int i] ∧ Q (.int i) H) ∨ ∃ k, xs = [.bl k] ∧ Q (.int (if k then 1 else 0)) H) gInt := by
  intro vs H Q σ ds ts rs hl h p
  obtain ⟨r, v, rfl, rfl, p⟩ := one_of hl p
  obtain ⟨Hd, h'⟩ := id h
  have hv := h'.tmp (r, v) List.mem_cons_self
  split at p
  · exact .inl ⟨_, by rw [show v = .int _ from rep_int hv], p _ _ (Rel.flat h.pop (flat_int _))⟩
  · exact .inr ⟨_, by rw [show v = .bl _ from rep_bool hv], p _ _ (Rel.flat h.pop (flat_int _))⟩
  · exact p.elim
def gLen (rs : List R) : M R := do
  let r ← one rs
  let d ← dat r
  match seqOf d with
  | some es => retI es.length
  | none => match d with
    | .dict kvs => retI kvs.length
    | .str z => do lenOk z.length; retI z.length
    | _ => fail
theorem do_len : DoesN G W (fun xs H Q => (∃ p ys, xs = [V.ref p] ∧ (SqL G.K H p ys ∨ SqT G.K H p ys) ∧ Q (V.int ↑ys.length) H) ∨ (∃ a kvs, xs = [V.ref a] ∧ H a = some (.dK kvs) ∧ Q (.int kvs.length) H) ∨ ∃ z, xs = [.str z] ∧ z.length ≤ sizeLine ∧ Q (.int z.length) H) gLen := by
  intro vs H Q σ ds ts rs hl h p
  obtain ⟨r, v, rfl, rfl, p⟩ := one_of hl p
  obtain ⟨d, hd, p⟩ := Post.dat (r := r) p
  obtain ⟨Hd, h'⟩ := id h
  have hv := h'.tmp (r, v) List.mem_cons_self
  cases hs : seqOf d with
  | some es =>
    simp only [hs] at p
    obtain ⟨a, xs, e1, e2, e3⟩ := h'.seq hv hd hs
    have e1 : v = .ref a := e1
    exact .inl ⟨a, xs, by rw [e1], e2, by rw [e3.length]; exact p _ _ (Rel.flat h.pop (flat_int _))⟩
  | none =>
    simp only [hs] at p
    split at p
    · obtain ⟨a, ks, e1, e2, e3⟩ := h'.dict hv hd hs
      have e1 : v = .ref a := e1
      exact .inr (.inl ⟨a, ks, by rw [e1], e2, by rw [e3.length]; exact p _ _ (Rel.flat h.pop (flat_int _))⟩)
    · obtain ⟨c, p⟩ := Post.need (b := decide _) p
      exact .inr (.inr ⟨_, by rw [show v = .str _ from rep_str (h'.look hv hd)], sizeLine16 c, p _ _ (Rel.flat h.pop (flat_int _))⟩)
    · exact p.elim
end
end Den
/-! DenG: statements -/
namespace Den
open PySem PySem.Spec PyProof.Rows L2
inductive Fl where
  | nx | rt (r : R) | bk | ct
def PErrS (G : Gh) (W : L2.WX) (ts : List (R × V)) (c : String) (ds : DS) : Prop := ∃ cv, G.cls c = some cv ∧ ∀ σ H, Rel G ds ts σ H → W cv none σ H
def FlP (G : Gh) (ts : List (R × V)) (D : Ends) (fl : Fl) (ds : DS) : Prop := match fl with
  | .nx => ∀ σ' H', Rel G ds ts σ' H' → D.nx σ' H'
  | .rt r => ∀ v σ' H', Rel G ds ((r, v) :: ts) σ' H' → D.rt v H'
  | .bk => ∀ σ' H', Rel G ds ts σ' H' → D.bk σ' H'
  | .ct => ∀ σ' H', Rel G ds ts σ' H' → D.ct σ' H'
def tS (G : Gh) (W : L2.WX) (f : M Fl) : TS := fun D σ H => ∃ ds ts, NoAt ts ∧ Rel G ds ts σ H ∧ Post (f ds) (FlP G ts D) (PErrS G W ts)
/-- slots outside of some stay -/
def Kept (vs : Option (List Nat)) (σ σ' : L2.St) : Prop := ∀ l, vs = some l → wipe σ' l = wipe σ l
theorem Kept.trans {vs : Option (List Nat)} {σ σ1 σ2 : L2.St} (a : Kept vs σ σ1) (b : Kept vs σ1 σ2) : Kept vs σ σ2 := fun l e => (b l e).trans (a l e)
theorem wipe_get (σ : L2.St) (j : Nat) : ∀ l : List Nat, (wipe σ l)[j]? = if j ∈ l ∧ j < σ.length then some none else σ[j]?
  | [] => by simp [wipe]
  | w :: l => by
    unfold wipe
    by_cases e : w = j
    · subst e
      by_cases hj : w < σ.length
      · rw [List.getElem?_set_self (by rw [wipe_length]; exact hj), if_pos ⟨List.mem_cons_self, hj⟩]
      · rw [List.getElem?_eq_none (by rw [List.length_set, wipe_length]; omega), if_neg (fun z => hj z.2), List.getElem?_eq_none (by omega)]
    · rw [List.getElem?_set_ne e, wipe_get σ j l]
      have : (j ∈ w :: l) = (j ∈ l) := by simp [show ¬ j = w from fun z => e z.symm]
      simp only [this]
theorem wipe_set {σ : L2.St} {i : Nat} {x : Option V} {l : List Nat} (h : i ∈ l) : wipe (σ.set i x) l = wipe σ l := by
  apply List.ext_getElem?
  intro j
  rw [wipe_get, wipe_get, List.length_set]
  by_cases e : i = j
  · subst e
    by_cases hj : i < σ.length
    · rw [if_pos ⟨h, hj⟩, if_pos ⟨h, hj⟩]
    · rw [if_neg (fun z => hj z.2), if_neg (fun z => hj z.2), List.getElem?_eq_none (by rw [List.length_set]; omega), List.getElem?_eq_none (by omega)]
  · rw [List.getElem?_set_ne e]
def tG (G : Gh) (W : L2.WX) (vs : Option (List Nat)) (g : R → M Unit) : TG := fun v σ H Q => ∃ ds ts r, NoAt ts ∧ Rel G ds ((r, v) :: ts) σ H ∧ Post (g r ds) (fun _ ds' => ∀ σ' H', Kept vs σ σ' → Rel G ds' ts σ' H' → Q σ' H') (PErrS G W ts)
def tGs (G : Gh) (W : L2.WX) (vs : Option (List Nat)) (g : List R → M Unit) : TGs := fun us σ H Q => ∃ ds ts rs, us.length = rs.length ∧ NoAt (rs.zip us ++ ts) ∧ Rel G ds (rs.zip us ++ ts) σ H ∧ Post (g rs ds) (fun _ ds' => ∀ σ' H', Kept vs σ σ' → Rel G ds' ts σ' H' → Q σ' H') (PErrS G W ts)
section
variable {X : Cx} {G : Gh} {W : L2.WX} {a b c e o i : Expr} {pos : Pos} {fa fb fc f fo fi : M R} {es : List Expr} {fr : M (List R)} {st : Stmt} {rest : List Stmt} {f1 f2 : M Fl} {ca : M Bool} {body orelse : List Stmt} {vs : Option (List Nat)}
theorem PErrS.at {ts : List (R × V)} {c : String} {ds : DS} (h : PErrS G W ts c ds) {σ : L2.St} : PErr G W ts σ c ds := let ⟨cv, e, k⟩ := h; ⟨cv, e, fun H r => k σ H r⟩
theorem PErrS.more {ts ts' : List (R × V)} {c : String} {ds : DS} (h : PErrS G W ts c ds) (s : ts.Sublist ts') : PErrS G W ts' c ds := let ⟨cv, e, k⟩ := h; ⟨cv, e, fun σ H r => k σ H (r.sub' s)⟩
theorem PErrS.push {p : R × V} {ts : List (R × V)} {c : String} {ds : DS} (h : PErrS G W ts c ds) : PErrS G W (p :: ts) c ds := h.more (List.sublist_cons_self _ _)
theorem ps_imp {t t' : TS} (h : PS X st t) (k : ∀ D σ H, t' D σ H → t D σ H) : PS X st t' := ⟨fun pins s σ H D I q => h.run pins s σ H D I (k D σ H q)⟩
theorem pss_imp {t t' : TS} {st : List Stmt} (h : PSs X st t) (k : ∀ D σ H, t' D σ H → t D σ H) : PSs X st t' := ⟨fun pins s σ H D I q => h.run pins s σ H D I (k D σ H q)⟩
theorem pg_imp {t t' : TG} (h : PG X e t) (k : ∀ v σ H Q, t' v σ H Q → t v σ H Q) : PG X e t' := ⟨fun pins s σ H v u Q I r q => h.run pins s σ H v u Q I r (k v σ H Q q)⟩
theorem pgs_imp {t t' : TGs} (h : PGs X es t) (k : ∀ v σ H Q, t' v σ H Q → t v σ H Q) : PGs X es t' := ⟨fun pins s σ H v u Q I r q => h.run pins s σ H v u Q I r (k v σ H Q q)⟩
/-- an expression's post from a statement's -/
theorem Post.ofS {f : M R} {k : R → M Fl} {ds : DS} {ts : List (R × V)} {D : Ends} {σ : L2.St} (p : Post ((do let r ← f; k r) ds) (FlP G ts D) (PErrS G W ts)) : Post (f ds) (fun r ds' => Post (k r ds') (FlP G ts D) (PErrS G W ts)) (PErr G W ts σ) :=
  (Post.bind.mp p).mono (fun _ _ z => z) fun _ _ z => z.at

/-! ### targets -/
/-- the object of a slot as plain data -/
def unAt (r : R) : M R := match r with
  | .at i => do let d ← frz (.at i); pure (.dat d)
  | r => pure r
theorem Rel.unAt {α : Type} {r : R} {v : V} {k : R → M α} {ds : DS} {ts : List (R × V)} {σ : L2.St} {H : Hp} {P : α → DS → Prop} {E : String → DS → Prop} (h : Rel G ds ((r, v) :: ts) σ H) (p : Post ((do let d ← Den.unAt r; k d) ds) P E) :
    ∃ r' ds', notAt r' ∧ Rel G ds' ((r', v) :: ts) σ H ∧ Post (k r' ds') P E := by
  cases r with
  | dat d => exact ⟨.dat d, ds, trivial, h, p⟩
  | new d => exact ⟨.new d, ds, trivial, h, p⟩
  | «at» i =>
    have p : Post ((do let d ← frz (.at i); k (.dat d)) ds) P E := by
      have p1 := Post.bind.mp p
      unfold Den.unAt at p1
      exact Post.bind.mpr ((Post.bind.mp p1).mono (fun _ _ z => z) fun _ _ z => z)
    obtain ⟨d, ds', h', p'⟩ := Rel.frz1 h p
    exact ⟨.dat d, ds', trivial, h', p'⟩
def putRaw (i : Nat) (r : R) : M Unit := fun ds => match ds[i]? with
  | some (some (.lent _)) => none
  | _ => some (.ok () (ds.set i (some (putS r))))
def putSl (i : Nat) (r : R) : M Unit := do
  let r ← unAt r
  putRaw i r
theorem Rel.putRaw {α : Type} {i : Nat} {r : R} {v : V} {k : Unit → M α} {ds : DS} {ts : List (R × V)} {σ : L2.St} {H : Hp} {P : α → DS → Prop} {E : String → DS → Prop} (hr : notAt r) (hn : NoAt ts) (h : Rel G ds ((r, v) :: ts) σ H) (p : Post ((do let d ← Den.putRaw i r; k d) ds) P E) :
    ∃ ds', Rel G ds' ts (σ.set i (some v)) H ∧ Post (k () ds') P E := by
  obtain ⟨Hd, h⟩ := h
  have p := Post.bind.mp p
  unfold Den.putRaw at p
  have hb : Post (some (Res.ok () (ds.set i (some (putS r))))) (fun a s' => Post (k a s') P E) E → ∃ ds', Rel G ds' ts (σ.set i (some v)) H ∧ Post (k () ds') P E ∨ (∃ q, G.B i = some q) := fun p => by
    cases hq : G.B i with
    | none => exact ⟨_, .inl ⟨⟨Hd, h.store hr hn hq⟩, p⟩⟩
    | some q => exact ⟨ds, .inr ⟨q, rfl⟩⟩
  split at p
  · exact p.elim
  · rename_i hno
    obtain ⟨ds', z⟩ := hb p
    rcases z with z | ⟨q, z⟩
    · exact ⟨ds', z⟩
    · obtain ⟨⟨d, w⟩, _⟩ := h.bor i q z
      exact absurd w (hno d)
theorem Rel.put {α : Type} {i : Nat} {r : R} {v : V} {k : Unit → M α} {ds : DS} {ts : List (R × V)} {σ : L2.St} {H : Hp} {P : α → DS → Prop} {E : String → DS → Prop} (hn : NoAt ts) (h : Rel G ds ((r, v) :: ts) σ H) (p : Post ((do let d ← putSl i r; k d) ds) P E) :
    ∃ ds', Rel G ds' ts (σ.set i (some v)) H ∧ Post (k () ds') P E := by
  have p : Post ((do let r ← Den.unAt r; (do let d ← Den.putRaw i r; k d)) ds) P E := by
    have p1 := Post.bind.mp p
    unfold putSl at p1
    refine Post.bind.mpr ((Post.bind.mp p1).mono (fun _ _ z => ?_) fun _ _ z => z)
    exact Post.bind.mpr z
  obtain ⟨r', ds', hr, h', p'⟩ := Rel.unAt h p
  exact Rel.putRaw hr hn h' p'
theorem bindU {m : M Unit} {ds : DS} {P : Unit → DS → Prop} {E : String → DS → Prop} (p : Post (m ds) P E) : Post ((m >>= fun u => (Pure.pure u : M Unit)) ds) P E := Post.bind.mpr (p.mono (fun _ _ z => Post.pure.mpr z) fun _ _ z => z)
theorem dg_name {i : Nat} {x : Str} (h : PG X (.Name x pos) (gName i)) (hv : ∀ l, vs = some l → i ∈ l) : PG X (.Name x pos) (tG G W vs (putSl i)) := pg_imp h fun v σ H Q q => by
  obtain ⟨ds, ts, r, hn, h, p⟩ := q
  obtain ⟨ds', h', p'⟩ := Rel.put (k := fun u => Pure.pure u) hn h (bindU p)
  exact Post.pure.mp p' _ H (fun l e => wipe_set (hv l e)) h'
theorem dgs_nil : PGs X [] (tGs G W vs fun rs => need rs.isEmpty) := pgs_imp pgs_nil fun vs σ H Q q => by
  obtain ⟨ds, ts, rs, hl, hn, h, p⟩ := q
  cases rs with
  | nil => exact ⟨List.eq_nil_of_length_eq_zero hl, p σ H (fun _ _ => rfl) h⟩
  | cons _ _ => exact p.elim
def gsCons (g : R → M Unit) (gs : List R → M Unit) : List R → M Unit
  | r :: rs => do g r; gs rs
  | [] => fail
theorem dgs_cons {g : R → M Unit} {gs : List R → M Unit} (h1 : PG X e (tG G W vs g)) (h2 : PGs X es (tGs G W vs gs)) (hs : (assignEach (e :: es) X.env).map (·.2) = assign e X.env :: (assignEach es X.env).map (·.2) := by rfl) : PGs X (e :: es) (tGs G W vs (gsCons g gs)) :=
  pgs_imp (pgs_cons h1 h2 hs) fun us σ H Q q => by
    obtain ⟨ds, ts, rs, hl, hn, h, p⟩ := q
    cases rs with
    | nil => exact p.elim
    | cons r rs =>
      cases us with
      | nil => simp at hl
      | cons v us =>
        have hn' : NoAt (rs.zip us ++ ts) := fun q hq => hn q (List.mem_cons_of_mem _ hq)
        refine ⟨v, us, rfl, ds, rs.zip us ++ ts, r, hn', h, (Post.bind.mp p).mono (fun _ ds1 q σ1 H1 k1 h1 => ⟨ds1, ts, rs, by simpa using hl, hn', h1, q.mono (fun _ _ q σ' H' k2 h2 => q σ' H' (k1.trans k2) h2) fun _ _ z => z⟩) fun _ _ z => z.more (List.sublist_append_right _ _)⟩
def unT (n : Nat) (gs : List R → M Unit) (r : R) : M Unit := do
  let d ← dat r
  match d with
  | .tuple es => do need (decide (es.length = n)); gs (es.map .dat)
  | _ => fail
theorem zip_reps {Hd : Hp} {ds : DS} {ts : List (R × V)} {σ : L2.St} {H : Hp} : ∀ {xs : List V} {es : List D}, RepAll G.K Hd xs es → Rel0 G Hd ds ts σ H → Rel0 G Hd ds ((es.map R.dat).zip xs ++ ts) σ H
  | _, _, .nil, h => h
  | _, _, .cons r rr, h => (zip_reps rr h).pushD r
theorem noAt_dats : ∀ (es : List D) (xs : List V) {ts : List (R × V)}, NoAt ts → NoAt ((es.map R.dat).zip xs ++ ts)
  | [], _, _, h => by simpa using h
  | _ :: _, [], _, h => by simpa using h
  | d :: es, x :: xs, ts, h => fun q hq => by
    rcases List.mem_cons.mp hq with rfl | hq
    · exact trivial
    · exact noAt_dats es xs h q hq
theorem dg_tup {k : Nat} {gs : List R → M Unit} {n : Nat} (hK : X.K = G.K) (hc : X.calm = true) (h : PGs X es (tGs G W vs gs)) (hn : (assignEach es X.env).length = n := by rfl) (hst : (assignEach es X.env).findIdx? (·.1) = none := by rfl) : PG X (.Tuple es k pos) (tG G W vs (unT n gs)) :=
  pg_imp (pg_tup hc h hn hst) fun v σ H Q q => by
    obtain ⟨ds, ts, r, hn, ⟨Hd, h⟩, p⟩ := q
    obtain ⟨d, hd, p⟩ := Post.dat (r := r) p
    split at p
    · rename_i es'
      obtain ⟨c, p⟩ := Post.need (b := decide _) p
      obtain ⟨a, xs, e1, e2, e3⟩ := h.tuple h.top hd
      have c := of_decide_eq_true c
      exact ⟨a, xs, e1, hK ▸ e2, by rw [e3.length]; exact c, ds, ts, es'.map .dat, by rw [e3.length, List.length_map], noAt_dats _ _ hn, ⟨Hd, zip_reps e3 h.pop⟩, p⟩
    · exact p.elim
/-- o[i] = d -/
def setD (i : R) (d : D) : D → Option D
  | .list es => match i with
    | .dat (.int j) => (ixN es.length j).map fun n => .list (es.set n d)
    | _ => none
  | .dict kvs => match i with
    | .dat kd => match keyOf kd with
      | some kk => if kvs.length < 16777216 then some (.dict (putD (kD kk) d kvs)) else none
      | none => none
    | _ => none
  | _ => none
/-- an object of a slot is changed -/
def modAt (o : R) (g : D → Option D) : M Unit := match o with
  | .at k => fun ds => match ds[k]? with
    | some (some (.own c)) => match g c with
      | some c' => some (.ok () (ds.set k (some (.own c'))))
      | none => none
    | some (some (.lent c)) => match g c with
      | some c' => some (.ok () (ds.set k (some (.lent c'))))
      | none => none
    | _ => none
  | _ => fail
theorem modAt_ok {o : R} {g : D → Option D} {ov : V} {ds : DS} {ts : List (R × V)} {σ : L2.St} {H : Hp} {E : String → DS → Prop} {P : Unit → DS → Prop} {Hd : Hp} (h : Rel0 G Hd ds ((o, ov) :: ts) σ H) (p : Post (modAt o g ds) P E) :
    ∃ a c c', ov = .ref a ∧ dOf ds o = some c ∧ g c = some c' ∧ RepTop G.K H Hd a c ∧ ∀ u, RepTop G.K (upd H a u) Hd a c' → ∃ ds', P () ds' ∧ Rel0 G Hd ds' ts σ (upd H a u) := by
  unfold modAt at p
  cases o with
  | dat _ => exact p.elim
  | new _ => exact p.elim
  | «at» k =>
    obtain ⟨h1, sv, h2⟩ := h.top
    obtain ⟨v', e1, e2⟩ := h.slo k sv h2
    rw [h1] at e1; cases e1
    simp only [h2] at p
    cases sv with
    | dat _ => exact p.elim
    | own c =>
      obtain ⟨a, rfl, z⟩ := e2
      simp only at p
      cases hg : g c with
      | none => simp only [hg] at p; exact p.elim
      | some c' =>
        simp only [hg] at p
        exact ⟨a, c, c', rfl, by simp only [dOf, h2]; rfl, hg, z.1, fun u hu => ⟨_, p, h.pop.write (sv' := .own c') h2 h1 (.inl ⟨_, _, rfl, rfl⟩) hu⟩⟩
    | lent c =>
      obtain ⟨a, rfl, z⟩ := e2
      simp only at p
      cases hg : g c with
      | none => simp only [hg] at p; exact p.elim
      | some c' =>
        simp only [hg] at p
        exact ⟨a, c, c', rfl, by simp only [dOf, h2]; rfl, hg, z.1, fun u hu => ⟨_, p, h.pop.write (sv' := .lent c') h2 h1 (.inr ⟨_, _, rfl, rfl⟩) hu⟩⟩
def gSetIx (o i r : R) : M Unit := do let d ← frz r; modAt o (setD i d)
theorem setIx_ok {o i : R} {d : D} {ov iv v : V} {ds : DS} {ts : List (R × V)} {σ : L2.St} {H : Hp} {E : String → DS → Prop} {P : Unit → DS → Prop} (h : Rel G ds ((.dat d, v) :: (i, iv) :: (o, ov) :: ts) σ H) (p : Post (modAt o (setD i d) ds) P E) {Q : Hp → Prop}
    (q : ∀ ds' H', P () ds' → Rel G ds' ts σ H' → Q H') : rSetL ov iv v H Q ∨ rSetD ov iv v H Q := by
  obtain ⟨Hd, h⟩ := h
  have rv : Rep G.K Hd v d := h.tmp _ List.mem_cons_self
  have ri := h.tmp (i, iv) (List.mem_cons_of_mem _ List.mem_cons_self)
  obtain ⟨a, c, c', rfl, _, hg, ht, fin⟩ := modAt_ok h.pop.pop p
  cases c with
  | list es =>
    obtain ⟨xs, e1, e2⟩ := ht
    cases i with
    | dat kd =>
      cases kd with
      | int j =>
        have ei : iv = .int j := rep_int ri
        simp only [setD] at hg
        cases hn : ixN es.length j with
        | none => rw [hn] at hg; cases hg
        | some n =>
          rw [hn] at hg; cases hg
          obtain ⟨ds', w1, w2⟩ := fin (.lst (xs.set n v)) ⟨_, upd_same, e2.set rv n⟩
          exact .inl ⟨a, xs, j, n, rfl, ei, e1, by rw [e2.length]; exact hn, q _ _ w1 ⟨Hd, w2⟩⟩
      | _ => cases hg
    | _ => cases hg
  | dict kvs =>
    obtain ⟨ks, e1, e2⟩ := ht
    cases i with
    | dat kd =>
      simp only [setD] at hg
      cases hk : keyOf kd with
      | none => rw [hk] at hg; cases hg
      | some kk =>
        rw [hk] at hg
        simp only at hg
        split at hg
        · rename_i hlt
          cases hg
          obtain ⟨ei, _⟩ := rep_key ri hk
          have ei : iv = kV kk := ei
          obtain ⟨ds', w1, w2⟩ := fin (.dK (putK ks kk v)) ⟨_, upd_same, e2.put rv⟩
          exact .inr ⟨a, _, rfl, .inl ⟨ks, kk, e1, ei, by rw [e2.length, sizeLine_eq]; exact hlt, rfl⟩, q _ _ w1 ⟨Hd, w2⟩⟩
        · cases hg
    | _ => cases hg
  | _ => exact ht.elim
theorem PSet.or {t t' : TSet} (h : PSet X t) (h' : PSet X t') : PSet X (fun o i v H Q => t o i v H Q ∨ t' o i v H Q) :=
  fun pins s σ H o i v ov iv u Q I r1 r2 r3 q => q.elim (h pins s σ H o i v ov iv u Q I r1 r2 r3) (h' pins s σ H o i v ov iv u Q I r1 r2 r3)
theorem dg_sub {k : Nat} (hr : Room k X.A) (ho : PE X o (tD G W fo)) (hi : PE X i (tD G W fi))
    (ha : ∀ v, assign (.Subscript o i pos) X.env v = (do
      let ov ← holding [v] (eval o X.env)
      let iv ← holding [v, ov] (eval i X.env)
      standAt pos
      holding [v, ov, iv] (setItem ov iv v)
      release [v, ov, iv] []) := by intro _; rfl) : PG X (.Subscript o i pos) (tG G W none fun r => do let ov ← fo; let iv ← fi; gSetIx ov iv r) :=
  pg_imp (pg_sub ho hi (PSet.or set_list (set_dict (by have := hr.units; omega))) ha) fun v σ H Q q => by
    obtain ⟨ds, ts, r, hn, h, p⟩ := q
    refine tD.go (k := fun x => pure x) h ((Post.bind.mp p).mono (fun _ _ z => z) fun _ _ z => z.push.at) fun ro ds1 ov H1 p1 h1 => ?_
    refine tD.go (k := fun x => pure x) h1 ((Post.bind.mp p1).mono (fun _ _ z => z) fun _ _ z => z.push.push.at) fun ri ds2 iv H2 p2 h2 => ?_
    have h2' : Rel G ds2 ((r, v) :: (ri, iv) :: (ro, ov) :: ts) σ H2 := h2.perm (((List.Perm.swap _ _ _).trans ((List.Perm.swap _ _ _).cons _)))
    obtain ⟨d, ds3, h3, p3⟩ := Rel.frz1 h2' p2
    exact setIx_ok h3 p3 fun ds' H' q hq => q σ H' (fun _ e => by cases e) hq

/-! ### small statements -/
theorem ds_asg {tg : Expr} {g : R → M Unit} (he : PE X e (tD G W f)) (hg : PG X tg (tG G W none g)) (hs : swapsWithSole [tg] e pos.line X.env = pure false := by rfl) (hw : swappedStores [tg] e X.env = pure none := by rfl)
    (h1 : (assignEach [tg] X.env).map (·.2) = [assign tg X.env] := by rfl) : PS X (.Assign [tg] e pos) (tS G W (do let r ← f; g r; pure .nx)) := ps_imp (ps_asg he hg hs hw h1) fun D σ H q => by
  obtain ⟨ds, ts, hn, h, p⟩ := q
  refine tD.go (k := fun x => pure x) h p.ofS fun r ds1 v H1 p1 h1 => ?_
  exact ⟨ds1, ts, r, hn, h1, (Post.bind.mp p1).mono (fun _ ds2 q σ' H' _ h' => q σ' H' h') fun _ _ z => z⟩
theorem ds_set {i : Nat} {x : Str} {pos' : Pos} (h : PS X (.Assign [.Name x pos'] e pos) (tAsg (tD G W f) (gName i))) : PS X (.Assign [.Name x pos'] e pos) (tS G W (do let r ← f; putSl i r; pure .nx)) := ps_imp h fun D σ H q => by
  obtain ⟨ds, ts, hn, h, p⟩ := q
  refine tD.go (k := fun x => pure x) h p.ofS fun r ds1 v H1 p1 h1 => ?_
  obtain ⟨ds', h', p'⟩ := Rel.put hn h1 p1
  exact p' _ H1 h'
theorem ds_par {i j : Nat} (h : PS X st (tPar i j (tA G W fr))) : PS X st (tS G W (do let rs ← fr; match rs with | [r, q] => do { let r ← unAt r; let q ← unAt q; putRaw i r; putRaw j q; pure .nx } | _ => fail)) := ps_imp h fun D σ H q => by
  obtain ⟨ds, ts, hn, h, p⟩ := q
  refine tA.go h ((Post.bind.mp p).mono (fun _ _ z => z) fun _ _ z => z.at) fun rs ds1 vs H1 p1 hl h1 => ?_
  split at p1
  · match vs, hl with
    | [v, w], _ =>
      refine ⟨v, w, rfl, ?_⟩
      obtain ⟨r', ds2, n1, h2, p2⟩ := Rel.unAt h1 p1
      obtain ⟨q', ds3, n2, h3, p3⟩ := Rel.unAt (h2.perm (List.Perm.swap _ _ _)) p2
      have hn' : NoAt ((q', w) :: ts) := fun z hz => by
        rcases List.mem_cons.mp hz with rfl | hz
        · exact n2
        · exact hn z hz
      obtain ⟨ds4, h4, p4⟩ := Rel.putRaw n1 hn' (h3.perm (List.Perm.swap _ _ _)) p3
      obtain ⟨ds5, h5, p5⟩ := Rel.putRaw n2 hn h4 p4
      exact p5 _ H1 h5
  · exact p1.elim
theorem ds_expr (he : PE X e (tD G W f)) (hs : swapsWith e none pos.line X.env = pure false := by rfl) : PS X (.Expr e pos) (tS G W (do let _ ← f; pure .nx)) := ps_imp (ps_expr he hs) fun D σ H q => by
  obtain ⟨ds, ts, hn, h, p⟩ := q
  exact tD.go (k := fun x => pure x) h p.ofS fun r ds1 v H1 p1 h1 => p1 σ H1 h1.pop
theorem ds_ret (he : PE X e (tD G W f)) : PS X (.Return (some e) pos) (tS G W (do let r ← f; pure (.rt r))) := ps_imp (ps_ret he) fun D σ H q => by
  obtain ⟨ds, ts, hn, h, p⟩ := q
  exact tD.go (k := fun x => pure x) h p.ofS fun r ds1 v H1 p1 h1 => p1 v σ H1 h1
theorem ds_retN : PS X (.Return none pos) (tS G W (pure (.rt (.dat .none)))) := ps_imp ps_retN fun D σ H q => by
  obtain ⟨ds, ts, hn, h, p⟩ := q
  exact p .non σ H (Rel.flat h flat_non)
def thenS (f1 f2 : M Fl) : M Fl := do
  match ← f1 with
  | .nx => f2
  | x => pure x
theorem dss_nil : PSs X [] (tS G W (pure .nx)) := pss_imp pss_nil fun D σ H q => by
  obtain ⟨ds, ts, hn, h, p⟩ := q
  exact p σ H h
theorem dss_cons (h1 : PS X st (tS G W f1)) (h2 : PSs X rest (tS G W f2)) : PSs X (st :: rest) (tS G W (thenS f1 f2)) := pss_imp (pss_cons h1 h2) fun D σ H q => by
  obtain ⟨ds, ts, hn, h, p⟩ := q
  refine ⟨ds, ts, hn, h, (Post.bind.mp p).mono (fun fl ds1 q => ?_) fun _ _ z => z⟩
  cases fl with
  | nx => exact fun σ1 H1 h1 => ⟨ds1, ts, hn, h1, q⟩
  | rt r => exact q
  | bk => exact q
  | ct => exact q
theorem dss_one (h1 : PS X st (tS G W f1)) : PSs X [st] (tS G W f1) := pss_one h1
theorem ds_if (hc : PT X c (tT G W ca)) (ha : PSs X body (tS G W f1)) (hb : PSs X orelse (tS G W f2)) : PS X (.If c body orelse pos) (tS G W (do let k ← ca; if k then f1 else f2)) := ps_imp (ps_if hc ha hb) fun D σ H q => by
  obtain ⟨ds, ts, hn, h, p⟩ := q
  refine tT.go h ((Post.bind.mp p).mono (fun _ _ z => z) fun _ _ z => z.at) fun k ds1 H1 p1 h1 => ?_
  cases k with
  | true => exact ⟨ds1, ts, hn, h1, p1⟩
  | false => exact ⟨ds1, ts, hn, h1, p1⟩
theorem ds_pass : PS X (.Pass pos) (tS G W (pure .nx)) := ps_imp ps_pass fun D σ H q => by
  obtain ⟨ds, ts, hn, h, p⟩ := q
  exact p σ H h
theorem ds_break : PS X (.Break pos) (tS G W (pure .bk)) := ps_imp ps_break fun D σ H q => by
  obtain ⟨ds, ts, hn, h, p⟩ := q
  exact p σ H h
theorem ds_continue : PS X (.Continue pos) (tS G W (pure .ct)) := ps_imp ps_continue fun D σ H q => by
  obtain ⟨ds, ts, hn, h, p⟩ := q
  exact p σ H h
/-- name += e, of whole numbers -/
theorem ds_aug {i : Nat} {gI : Int → Int → Int} (h : PS X st (tAug i (tD G W f) (ipI gI))) : PS X st (tS G W (do let x ← getSl i; let y ← f; let a ← asInt x; let b ← asInt y; putRaw i (.dat (.int (gI a b))); pure .nx)) := ps_imp h fun D σ H q => by
  obtain ⟨ds, ts, hn, h, p⟩ := q
  have p := Post.bind.mp p
  unfold getSl at p
  cases e : ds[i]? with
  | none => simp only [e] at p; exact p.elim
  | some o => cases o with
    | none => simp only [e] at p; exact p.elim
    | some sv =>
      simp only [e] at p
      obtain ⟨Hd, h⟩ := h
      obtain ⟨v, h1, h2⟩ := h.slot e
      refine ⟨v, h1, ?_⟩
      refine tD.go (k := fun x => pure x) ⟨Hd, h2⟩ ((Post.bind.mp p).mono (fun _ _ z => z) fun _ _ z => z.push.at) fun ry ds1 y H1 p1 h1 => ?_
      obtain ⟨a, e1, p1⟩ := Post.asInt (r := getR i sv) p1
      obtain ⟨b, rfl, p1⟩ := Post.asInt (r := ry) p1
      obtain ⟨Hd1, h1'⟩ := id h1
      rw [e1] at h1'
      refine ⟨a, b, rep_int (h1'.tmp (.dat (.int a), v) (List.mem_cons_of_mem _ List.mem_cons_self)), rep_int (h1'.tmp _ List.mem_cons_self), ?_⟩
      obtain ⟨ds2, h3, p2⟩ := Rel.putRaw (r := .dat (.int (gI a b))) (v := .int (gI a b)) trivial hn ⟨Hd1, h1'.pop.pop.pushD (.int _)⟩ p1
      exact p2 _ H1 h3
end
end Den
/-! DenH: what is walked; for, while, list comprehensions -/
namespace Den
open PySem PySem.Spec PyProof.Rows L2
/-- plain data alone -/
def Dats (ts : List (R × V)) : Prop := ∀ p ∈ ts, ∃ d, p.1 = .dat d
/-- the iterator J gives these items, as long as tmps stand -/
def JOk (G : Gh) (J : It) (items : List D) (tmps : List (R × V)) : Prop := ∀ (ds : DS) (ts : List (R × V)) (σ : L2.St) (H : Hp) (i : Nat), (∀ p ∈ tmps, p ∈ ts) → Rel G ds ts σ H →
  (∀ d, items[i]? = some d → J.go i H ∧ ∀ x H', J.yld i H x H' → Rel G ds ((.dat d, x) :: ts) σ H') ∧ (items.length ≤ i → J.stop i H)
def iD (G : Gh) (W : L2.WX) (f : M (List D)) : TI := fun σ H R => ∃ ds ts, Rel G ds ts σ H ∧ Post (f ds) (fun items ds' => ∀ J tmps H', JOk G J items tmps → Dats tmps → Rel G ds' (tmps ++ ts) σ H' → R J H') (PErr G W ts σ)
section
variable {X : Cx} {G : Gh} {W : L2.WX} {a b c e tg iter : Expr} {pos : Pos} {fa fb fc f : M R} {es : List Expr} {fr : M (List R)} {st : Stmt} {f1 f2 fs : M Fl} {ca : M Bool} {body orelse : List Stmt} {fi : M (List D)}
theorem pi_imp {t t' : TI} (h : PI X tg iter t) (k : ∀ σ H R, t' σ H R → t σ H R) : PI X tg iter t' := ⟨fun pins s σ H R I q => h.run pins s σ H R I (k σ H R q)⟩
def iSeq (K : PySem.W.Frag) (tl : TE) : TI := fun σ H R => tl σ H fun x H1 => ∃ a, x = .ref a ∧ ((∃ xs, SqL K H1 a xs ∧ R (Itl K a) H1) ∨ (∃ xs, SqT K H1 a xs ∧ R (Itt K a) H1))
theorem pi_seq {l : Expr} {tl : TE} (hl : PE X l tl) : PI X tg l (iSeq X.K tl) := by
  refine ⟨fun pins s σ H R I h => ?_⟩
  refine thn (hl.run pins s σ H _ I h) fun v s1 ⟨x, H1, I1, r1, q1⟩ => ?_
  obtain ⟨a, e, q⟩ := q1
  subst e
  cases r1
  rcases q with ⟨xs, hq, q⟩ | ⟨xs, hq, q⟩
  · obtain ⟨its, rv, p, hz⟩ := I1.list hq
    refine wpAny_pyIter_list p.isList ?_
    refine ⟨s1.heap.objs.size, [s1.heap.objs.size], _, _, H1, rfl, I1.kept (t' := s1.toks) fun b o e => Heap.get?_push_of_some _ e, turn_list a _, ⟨_, Heap.get?_push_size _ rfl, rfl, rfl⟩, fun b hb => ?_, q⟩
    have e : b = s1.heap.objs.size := by simpa using hb
    subst e
    exact I1.fpOk (Nat.le_refl _) (I1.hok.fresh (Nat.le_refl _))
  · obtain ⟨its, rv, p, hz⟩ := I1.tuple hq
    refine wpAny_pyIter_tuple (show s1.heap.IsTuple a its.toArray from p) ?_
    refine ⟨s1.heap.objs.size, [s1.heap.objs.size], _, _, H1, rfl, I1.kept (t' := s1.toks) fun b o e => Heap.get?_push_of_some _ e, turn_tuple a _, ⟨_, Heap.get?_push_size _ rfl, rfl, rfl⟩, fun b hb => ?_, q⟩
    have e : b = s1.heap.objs.size := by simpa using hb
    subst e
    exact I1.fpOk (Nat.le_refl _) (I1.hok.fresh (Nat.le_refl _))
/-- the items of a list, a tuple -/
def itemsOf (r : R) : M (List D) := do
  let d ← frz r
  match seqOf d with
  | some es => pure es
  | none => fail
theorem di_seq (hK : X.K = G.K) (h : PE X e (tD G W f)) : PI X tg e (iD G W (do let r ← f; itemsOf r)) := pi_imp (pi_seq h) fun σ H Rr q => by
  obtain ⟨ds, ts, h, p⟩ := q
  refine tD.go (k := fun x => pure x) h (Post.bind.mp p) fun r ds1 v H1 p1 h1 => ?_
  have p1 : Post ((do let d ← frz r; (match seqOf d with | some es => pure es | none => fail : M (List D))) ds1) _ _ := p1
  obtain ⟨d, ds2, h2, p2⟩ := Rel.frz1 h1 p1
  cases hs : seqOf d with
  | none => simp only [hs] at p2; exact p2.elim
  | some es =>
    simp only [hs] at p2
    have p2 := Post.pure.mp p2
    obtain ⟨Hd, h2'⟩ := id h2
    obtain ⟨a, xs, e1, e2, e3⟩ := h2'.seq (r := .dat d) h2'.top rfl hs
    refine ⟨a, e1, ?_⟩
    have dd : Dats [((.dat d, v) : R × V)] := fun p hp => ⟨d, by rw [List.mem_singleton.mp hp]⟩
    have key : ∀ (ds' : DS) (ts' : List (R × V)) (σ' : L2.St) (H' : Hp), (∀ p ∈ [((.dat d, v) : R × V)], p ∈ ts') → ∀ Hd', Rel0 G Hd' ds' ts' σ' H' → ∃ ys, RepAll G.K Hd' ys es ∧ (((∃ l, d = .list l) ∨ (∃ l, d = scriptD l)) ∧ SqL G.K H' a ys ∨ (∃ l, d = .tuple l) ∧ SqT G.K H' a ys) := fun ds' ts' σ' H' hm Hd' h' => by
      have rp : Rep G.K Hd' v d := h'.tmp (.dat d, v) (hm _ List.mem_cons_self)
      have rp2 := rp
      unfold seqOf at hs
      split at hs
      · cases hs
        cases rp with | lst s q => cases e1; exact ⟨_, q, .inl ⟨.inl ⟨_, rfl⟩, SqL.of (h'.sub _ _ s)⟩⟩
      · cases hs
        cases rp with | tup s q => cases e1; exact ⟨_, q, .inr ⟨⟨_, rfl⟩, Same.seqT h'.sub s⟩⟩
      · cases hs
        obtain ⟨a', ys, e1', e2', e3'⟩ := scr_of rp
        rw [e1] at e1'; cases e1'
        exact ⟨ys, e3', .inl ⟨.inr ⟨_, rfl⟩, Same.seq h'.sub e2'⟩⟩
      · cases hs
    have hrel : Rel G ds2 ([(.dat d, v)] ++ ts) σ H1 := h2
    obtain ⟨ys0, _, w⟩ := key ds2 _ σ H1 (fun p hp => by rw [List.mem_singleton.mp hp]; exact List.mem_cons_self) Hd h2'
    rcases w with ⟨hd, w⟩ | ⟨hd, w⟩
    · refine .inl ⟨ys0, hK ▸ w, p2 _ [(.dat d, v)] H1 (fun ds' ts' σ' H' i hm h' => ?_) dd hrel⟩
      obtain ⟨Hd', h'⟩ := h'
      obtain ⟨ys, r1, r2⟩ := key ds' ts' σ' H' hm Hd' h'
      have r2 : SqL G.K H' a ys := by
        rcases r2 with ⟨_, r2⟩ | ⟨⟨l, hl⟩, _⟩
        · exact r2
        · rcases hd with ⟨m, hm'⟩ | ⟨m, hm'⟩ <;> rw [hl] at hm' <;> cases hm'
      rw [hK]
      refine ⟨fun x hx => ⟨?_, fun y H'' hy => ?_⟩, fun hi => ⟨ys, r2, by rw [r1.length]; exact hi⟩⟩
      · obtain ⟨u, hu, _⟩ := r1.get hx
        exact ⟨ys, u, r2, hu⟩
      · obtain ⟨rfl, hy⟩ := hy
        obtain ⟨u, hu, ru⟩ := r1.get hx
        have := hy ys r2
        rw [hu] at this; cases this
        exact ⟨Hd', h'.pushD ru⟩
    · refine .inr ⟨ys0, hK ▸ w, p2 _ [(.dat d, v)] H1 (fun ds' ts' σ' H' i hm h' => ?_) dd hrel⟩
      obtain ⟨Hd', h'⟩ := h'
      obtain ⟨ys, r1, r2⟩ := key ds' ts' σ' H' hm Hd' h'
      have r2 : SqT G.K H' a ys := by
        rcases r2 with ⟨z, _⟩ | ⟨_, r2⟩
        · obtain ⟨l, hl⟩ := hd
          rcases z with ⟨m, hm'⟩ | ⟨m, hm'⟩ <;> rw [hl] at hm' <;> cases hm'
        · exact r2
      rw [hK]
      refine ⟨fun x hx => ⟨?_, fun y H'' hy => ?_⟩, fun hi => ⟨ys, r2, by rw [r1.length]; exact hi⟩⟩
      · obtain ⟨u, hu, _⟩ := r1.get hx
        exact ⟨ys, u, r2, hu⟩
      · obtain ⟨rfl, hy⟩ := hy
        obtain ⟨u, hu, ru⟩ := r1.get hx
        have := hy ys r2
        rw [hu] at this; cases this
        exact ⟨Hd', h'.pushD ru⟩
/-- whole numbers from lo on -/
def upFrom (lo : Int) (n : Nat) : List D := (List.range n).map fun (k : Nat) => PyData.int (lo + (k : Int))
theorem upFrom_get {lo : Int} {n i : Nat} {d : D} (h : (upFrom lo n)[i]? = some d) : i < n ∧ d = .int (lo + (i : Int)) := by
  unfold upFrom at h
  rw [List.getElem?_map] at h
  by_cases hi : i < n
  · rw [List.getElem?_range hi] at h
    cases h
    exact ⟨hi, rfl⟩
  · rw [List.getElem?_eq_none (by simpa using hi)] at h
    cases h
theorem jok_range {lo : Int} {n : Nat} : JOk G (Itr lo n) (upFrom lo n) [] := fun ds ts σ H i _ h => by
  refine ⟨fun d hd => ?_, fun hi => ?_⟩
  · obtain ⟨h1, rfl⟩ := upFrom_get hd
    refine ⟨h1, fun x H' hy => ?_⟩
    obtain ⟨rfl, rfl⟩ := hy
    exact Rel.flat h (flat_int _)
  · show n ≤ i
    simpa [upFrom] using hi
def in62 (i : Int) : Bool := decide (-4611686018427387904 ≤ i ∧ i < 4611686018427387904)
theorem in62_of {i : Int} (h : in62 i = true) : -(2 ^ 62) ≤ i ∧ i < 2 ^ 62 := by
  have := of_decide_eq_true h
  constructor
  · have := this.1; omega
  · have := this.2; omega
def rng1 (rs : List R) : M (List D) := do
  let r ← one rs
  let j ← asInt r
  need (in62 j)
  pure (upFrom 0 j.toNat)
def rng2 (rs : List R) : M (List D) := match rs with
  | [r, q] => do
    let i ← asInt r
    let j ← asInt q
    need (in62 i && in62 j)
    pure (upFrom i (j - i).toNat)
  | _ => fail
theorem di_range1 {p : Pos} (hg : Gl X "range") (hm : X.mg "range" = none) (ha : PA X [a] (tA G W fr)) (hs : starEach [a] X.env = [(false, eval a X.env)] := by rfl) : PI X tg (.Call (.Name "range" p) [a] [] pos) (iD G W (do let rs ← fr; rng1 rs)) :=
  pi_imp (pi_range1 hg hm ha hs) fun σ H Rr q => by
    obtain ⟨ds, ts, h, p⟩ := q
    refine tA.go h (Post.bind.mp p) fun rs ds1 vs H1 p1 hl h1 => ?_
    obtain ⟨r, v, rfl, rfl, p1⟩ := one_of hl p1
    obtain ⟨j, rfl, p1⟩ := Post.asInt (r := r) p1
    obtain ⟨c, p1⟩ := Post.need (b := in62 j) p1
    obtain ⟨Hd, h1'⟩ := id h1
    have ev : v = .int j := rep_int (h1'.tmp (.dat (.int j), v) List.mem_cons_self)
    exact ⟨j, by rw [ev], (in62_of c).1, (in62_of c).2, p1 _ [] H1 jok_range (fun _ z => by cases z) h1.pop⟩
theorem di_range2 {p : Pos} (hg : Gl X "range") (hm : X.mg "range" = none) (ha : PA X [a, b] (tA G W fr)) (hs : starEach [a, b] X.env = [(false, eval a X.env), (false, eval b X.env)] := by rfl) (hs2 : starEach [b] X.env = [(false, eval b X.env)] := by rfl) : PI X tg (.Call (.Name "range" p) [a, b] [] pos) (iD G W (do let rs ← fr; rng2 rs)) :=
  pi_imp (pi_range2 hg hm ha hs hs2) fun σ H Rr q => by
    obtain ⟨ds, ts, h, p⟩ := q
    refine tA.go h (Post.bind.mp p) fun rs ds1 vs H1 p1 hl h1 => ?_
    match rs, vs, hl with
    | [r, q], [v, w], _ =>
      obtain ⟨i, rfl, p1⟩ := Post.asInt (r := r) p1
      obtain ⟨j, rfl, p1⟩ := Post.asInt (r := q) p1
      obtain ⟨c, p1⟩ := Post.need (b := _ && _) p1
      have c := Bool.and_eq_true_iff.mp c
      obtain ⟨Hd, h1'⟩ := id h1
      have ev : v = .int i := rep_int (h1'.tmp (.dat (.int i), v) List.mem_cons_self)
      have ew : w = .int j := rep_int (h1'.tmp (.dat (.int j), w) (List.mem_cons_of_mem _ List.mem_cons_self))
      exact ⟨i, j, by rw [ev, ew], ⟨(in62_of c.1).1, (in62_of c.1).2, (in62_of c.2).1, (in62_of c.2).2⟩, p1 _ [] H1 jok_range (fun _ z => by cases z) h1.pop.pop⟩
    | [], _, _ => exact p1.elim
    | [_], _, _ => exact p1.elim
    | _ :: _ :: _ :: _, _, _ => exact p1.elim

/-! ### for, while -/
def forD (g : R → M Unit) (fb : M Fl) : List D → M Fl
  | [] => pure .nx
  | d :: r => do
    g (.dat d)
    match ← fb with
    | .nx => forD g fb r
    | .ct => forD g fb r
    | .bk => pure .nx
    | .rt v => pure (.rt v)
theorem dats_noAt {tmps ts : List (R × V)} (h : Dats tmps) (k : NoAt ts) : NoAt (tmps ++ ts) := fun p hp => by
  rcases List.mem_append.mp hp with hp | hp
  · obtain ⟨d, e⟩ := h p hp
    rw [e]; exact trivial
  · exact k p hp
theorem drop_get {α : Type} {l : List α} {i : Nat} {x : α} {r : List α} (h : l.drop i = x :: r) : l[i]? = some x ∧ l.drop (i + 1) = r ∧ i < l.length := by
  have hi : i < l.length := by
    rcases Nat.lt_or_ge i l.length with z | z
    · exact z
    · rw [List.drop_of_length_le z] at h; cases h
  rw [List.drop_eq_getElem_cons hi] at h
  injection h with h1 h2
  exact ⟨by rw [List.getElem?_eq_getElem hi, h1], h2, hi⟩
theorem ds_for {g : R → M Unit} (hp : PassesOwn (model X.prog X.w) X.A X.env X.xe) (hc : X.calm = true) (hi : PI X tg iter (iD G W fi)) (hg : PG X tg (tG G W none g)) (hb : PSs X body (tS G W fs))
    (hs : ∀ x, foldedSetIterable iter X.env x = pure x := by intro _; rfl) : PS X (.For tg iter body [] pos) (tS G W (do let items ← fi; forD g fs items)) := ps_imp (ps_for hp hc hi hg hb hs) fun D σ H q => by
  obtain ⟨ds, ts, hn, h, p⟩ := q
  refine ⟨ds, ts, h, ((Post.bind.mp p).mono (fun items ds1 p1 J tmps H1 hJ hD h1 => ?_) fun _ _ z => z.at)⟩
  have hsub : ts.Sublist (tmps ++ ts) := List.sublist_append_right _ _
  have hn' := dats_noAt hD hn
  refine ⟨fun i m σ H => m = items.length - i ∧ i ≤ items.length ∧ ∃ ds', Rel G ds' (tmps ++ ts) σ H ∧ Post (forD g fs (items.drop i) ds') (FlP G ts D) (PErrS G W ts), ⟨items.length, by simp, Nat.zero_le _, ds1, h1, p1⟩, ?_⟩
  rintro i m σ2 H2 ⟨rfl, hil, ds2, h2, p2⟩
  obtain ⟨j1, j2⟩ := hJ ds2 (tmps ++ ts) σ2 H2 i (fun p hp => List.mem_append_left _ hp) h2
  cases hd : items.drop i with
  | nil =>
    have hi : items.length ≤ i := by
      rcases Nat.lt_or_ge i items.length with z | z
      · rw [List.drop_eq_getElem_cons z] at hd; cases hd
      · exact z
    rw [hd] at p2
    exact .inl ⟨j2 hi, p2 _ _ (h2.sub' hsub)⟩
  | cons d r =>
    obtain ⟨e1, e2, e3⟩ := drop_get hd
    obtain ⟨go, yl⟩ := j1 d e1
    rw [hd] at p2
    refine .inr ⟨go, fun σ' H' => ∃ ds', Rel G ds' (tmps ++ ts) σ' H' ∧ Post (forD g fs (items.drop (i + 1)) ds') (FlP G ts D) (PErrS G W ts), fun σ' H' ⟨ds', k1, k2⟩ => ⟨items.length - (i + 1), by omega, rfl, e3, ds', k1, k2⟩, fun x H3 hy => ?_⟩
    have h3 := yl x H3 hy
    refine ⟨ds2, tmps ++ ts, .dat d, hn', h3, (Post.bind.mp p2).mono (fun _ ds4 p4 σ4 H4 _ h4 => ?_) fun _ _ z => z.more hsub⟩
    refine ⟨ds4, tmps ++ ts, hn', h4, (Post.bind.mp p4).mono (fun fl ds5 p5 => ?_) fun _ _ z => z.more hsub⟩
    cases fl with
    | nx => exact fun σ5 H5 h5 => ⟨ds5, h5, by rw [e2]; exact p5⟩
    | ct => exact fun σ5 H5 h5 => ⟨ds5, h5, by rw [e2]; exact p5⟩
    | bk => exact fun σ5 H5 h5 => p5 _ _ (h5.sub' hsub)
    | rt r => exact fun v σ5 H5 h5 => p5 v _ _ (h5.sub' (List.Sublist.cons₂ _ hsub))
/-- while, at most n turns -/
def whileD (c : M Bool) (fb : M Fl) : Nat → M Fl
  | 0 => fail
  | n + 1 => do
    let k ← c
    if k then
      match ← fb with
      | .nx => whileD c fb n
      | .ct => whileD c fb n
      | .bk => pure .nx
      | .rt v => pure (.rt v)
    else pure .nx
theorem ds_while {cnd : Expr} (n : Nat) (hp : PassesOwn (model X.prog X.w) X.A X.env X.xe) (hc : PT X cnd (tT G W ca)) (hb : PSs X body (tS G W fs)) : PS X (.While cnd body [] pos) (tS G W (whileD ca fs n)) := ps_imp (ps_while hp hc hb) fun D σ H q => by
  obtain ⟨ds, ts, hn, h, p⟩ := q
  refine ⟨fun m σ H => ∃ ds', Rel G ds' ts σ H ∧ Post (whileD ca fs m ds') (FlP G ts D) (PErrS G W ts), ⟨n, ds, h, p⟩, ?_⟩
  rintro m σ2 H2 ⟨ds2, h2, p2⟩
  cases m with
  | zero => exact p2.elim
  | succ m =>
    refine tT.go h2 ((Post.bind.mp p2).mono (fun _ _ z => z) fun _ _ z => z.at) fun k ds3 H3 p3 h3 => ?_
    cases k with
    | false => exact p3 _ _ h3
    | true =>
      rw [if_pos rfl]
      refine ⟨fun σ' H' => ∃ ds', Rel G ds' ts σ' H' ∧ Post (whileD ca fs m ds') (FlP G ts D) (PErrS G W ts), fun σ' H' z => ⟨m, Nat.lt_succ_self _, z⟩, ds3, ts, hn, h3, (Post.bind.mp p3).mono (fun fl ds5 p5 => ?_) fun _ _ z => z⟩
      cases fl with
      | nx => exact fun σ5 H5 h5 => ⟨ds5, h5, p5⟩
      | ct => exact fun σ5 H5 h5 => ⟨ds5, h5, p5⟩
      | bk => exact fun σ5 H5 h5 => p5 _ _ h5
      | rt r => exact fun v σ5 H5 h5 => p5 v _ _ h5
end
end Den
/-! DenI: list comprehensions -/
namespace Den
open PySem PySem.Spec PyProof.Rows L2
/-- no error leaves -/
def W0 : L2.WX := fun _ _ _ _ => False
def noErr {α : Type} (m : M α) : M α := fun ds => match m ds with
  | some (.ok a s) => some (.ok a s)
  | _ => none
def wipeD (ds : DS) : List Nat → DS
  | [] => ds
  | v :: vs => (wipeD ds vs).set v none
theorem wipeD_length (ds : DS) : ∀ vs : List Nat, (wipeD ds vs).length = ds.length
  | [] => rfl
  | v :: vs => by unfold wipeD; rw [List.length_set, wipeD_length ds vs]
theorem wipeD_get (σ : DS) (j : Nat) : ∀ l : List Nat, (wipeD σ l)[j]? = if j ∈ l ∧ j < σ.length then some none else σ[j]?
  | [] => by simp [wipeD]
  | w :: l => by
    unfold wipeD
    by_cases e : w = j
    · subst e
      by_cases hj : w < σ.length
      · rw [List.getElem?_set_self (by rw [wipeD_length]; exact hj), if_pos ⟨List.mem_cons_self, hj⟩]
      · rw [List.getElem?_eq_none (by rw [List.length_set, wipeD_length]; omega), if_neg (fun z => hj z.2), List.getElem?_eq_none (by omega)]
    · rw [List.getElem?_set_ne e, wipeD_get σ j l]
      have : (j ∈ w :: l) = (j ∈ l) := by simp [show ¬ j = w from fun z => e z.symm]
      simp only [this]
def restoreD (ds0 ds1 : DS) : List Nat → DS
  | [] => ds1
  | v :: vs => (restoreD ds0 ds1 vs).set v ((ds0[v]?).getD none)
theorem restoreD_length (ds0 ds1 : DS) : ∀ vs : List Nat, (restoreD ds0 ds1 vs).length = ds1.length
  | [] => rfl
  | v :: vs => by unfold restoreD; rw [List.length_set, restoreD_length ds0 ds1 vs]
theorem restoreD_get (ds0 ds1 : DS) (j : Nat) : ∀ l : List Nat, (restoreD ds0 ds1 l)[j]? = if j ∈ l ∧ j < ds1.length then some ((ds0[j]?).getD none) else ds1[j]?
  | [] => by simp [restoreD]
  | w :: l => by
    unfold restoreD
    by_cases e : w = j
    · subst e
      by_cases hj : w < ds1.length
      · rw [List.getElem?_set_self (by rw [restoreD_length]; exact hj), if_pos ⟨List.mem_cons_self, hj⟩]
      · rw [List.getElem?_eq_none (by rw [List.length_set, restoreD_length]; omega), if_neg (fun z => hj z.2), List.getElem?_eq_none (by omega)]
    · rw [List.getElem?_set_ne e, restoreD_get ds0 ds1 j l]
      have : (j ∈ w :: l) = (j ∈ l) := by simp [show ¬ j = w from fun z => e z.symm]
      simp only [this]
def okSlots (vs : List Nat) (ds : DS) : Bool := vs.all fun i => match ds[i]? with
  | some none => true
  | some (some (.dat _)) => true
  | _ => false
def shapeOk (vs : List Nat) (ds0 ds1 : DS) : Bool := (List.range ds0.length).all fun i => vs.contains i || ((ds0[i]?).getD none).isNone || ((ds1[i]?).getD none).isSome
/-- a block with slots of its own -/
def within {α : Type} (vs : List Nat) (m : M α) : M α := fun ds => if okSlots vs ds then
    match m ds with
    | some (.ok a ds1) => if shapeOk vs ds ds1 then some (.ok a (restoreD ds ds1 vs)) else none
    | _ => none
  else none
def wipeM (vs : List Nat) : M Unit := fun ds => some (.ok () (wipeD ds vs))
def lcLoop (vs : List Nat) (g : R → M Unit) (ft : M Bool) (fe : M R) : List D → List D → M (List D)
  | [], acc => pure acc
  | d :: r, acc => do
    wipeM vs
    g (.dat d)
    let b ← ft
    if b then do
      let y ← fe
      let e ← frz y
      lenOk (acc.length + 1)
      lcLoop vs g ft fe r (acc ++ [e])
    else lcLoop vs g ft fe r acc
def lcD (vs : List Nat) (fi : M (List D)) (g : R → M Unit) (ft : M Bool) (fe : M R) : M R := do
  let items ← fi
  let es ← within vs (lcLoop vs g ft fe items [])
  newL es

def keepT (q : R × V) : Bool := match q.1 with
  | .at _ => false
  | _ => true
theorem ownT_keep : ∀ ts : List (R × V), ownT (ts.filter keepT) = ownT ts
  | [] => rfl
  | (.dat d, v) :: ts => by rw [List.filter_cons_of_pos rfl]; show _ = ownT ts; exact ownT_keep ts
  | (.new d, v) :: ts => by
    rw [List.filter_cons_of_pos rfl]
    unfold ownT
    rw [List.filterMap_cons, List.filterMap_cons]
    have := ownT_keep ts
    unfold ownT at this
    rw [this]
  | (.at i, v) :: ts => by rw [List.filter_cons_of_neg (by simp [keepT])]; show _ = ownT ts; exact ownT_keep ts
theorem noAt_keep (ts : List (R × V)) : NoAt (ts.filter keepT) := fun p hp => by
  have := (List.mem_filter.mp hp).2
  obtain ⟨r, v⟩ := p
  cases r with
  | dat _ => trivial
  | new _ => trivial
  | «at» _ => cases this
theorem ownT_dats {tmps ts : List (R × V)} (h : Dats tmps) : ownT (tmps ++ ts) = ownT ts := by
  unfold ownT
  rw [List.filterMap_append]
  have : tmps.filterMap newAddr = [] := by
    rw [List.filterMap_eq_nil_iff]
    intro p hp
    obtain ⟨d, e⟩ := h p hp
    obtain ⟨r, v⟩ := p
    have e : r = .dat d := e
    subst e; rfl
  rw [this, List.nil_append]
section
variable {G : Gh} {Hd : Hp} {ds : DS} {ts ts' : List (R × V)} {σ : L2.St} {H : Hp} {p a : Addr} {i k : Nat} {r : R} {v : V}
theorem Rel0.wipe1 (h : Rel0 G Hd ds ts σ H) (hn : NoAt ts) (hb : G.B i = none) : Rel0 G Hd (ds.set i none) ts (σ.set i none) H := by
  have at_ : ∀ (j : Nat) (s : SV), (ds.set i none)[j]? = some (some s) → j ≠ i ∧ ds[j]? = some (some s) := fun j s q => by
    by_cases hj : i = j
    · subst hj
      by_cases hi : i < ds.length
      · rw [List.getElem?_set_self hi] at q; cases q
      · rw [List.getElem?_eq_none (by rw [List.length_set]; omega)] at q; cases q
    · rw [List.getElem?_set_ne hj] at q; exact ⟨fun z => hj z.symm, q⟩
  have os : ∀ (j : Nat) (q : Addr), OwnsS (ds.set i none) (σ.set i none) j q → OwnsS ds σ j q := fun j q ⟨⟨s, w1, w2⟩, w3⟩ => by
    obtain ⟨nj, w⟩ := at_ j s w1
    rw [List.getElem?_set_ne (fun z => nj z.symm)] at w3
    exact ⟨⟨s, w, w2⟩, w3⟩
  exact { h with
    sll := by rw [List.length_set, List.length_set]; exact h.sll
    slo := fun j s q => by
      obtain ⟨nj, q⟩ := at_ j s q
      obtain ⟨w, w1, w2⟩ := h.slo j s q
      exact ⟨w, by rw [List.getElem?_set_ne (fun z => nj z.symm)]; exact w1, w2⟩
    bor := fun j q b => by
      obtain ⟨⟨d', w1⟩, w2⟩ := h.bor j q b
      have hj : i ≠ j := fun z => by rw [z, b] at hb; cases hb
      exact ⟨⟨d', by rw [List.getElem?_set_ne hj]; exact w1⟩, by rw [List.getElem?_set_ne hj]; exact w2⟩
    tmp := fun q hq => by
      have z := h.tmp q hq
      have n := hn q hq
      obtain ⟨r', v'⟩ := q
      cases r' with
      | dat d => exact z
      | new d' => exact z
      | «at» j => exact n.elim
    dSS := fun j k q a b => h.dSS j k q (os j q a) (os k q b)
    dST := fun j q a => h.dST j q (os j q a) }
theorem Rel0.wipe (h : Rel0 G Hd ds ts σ H) (hn : NoAt ts) : ∀ {vs : List Nat}, (∀ i ∈ vs, G.B i = none) → Rel0 G Hd (wipeD ds vs) ts (L2.wipe σ vs) H
  | [], _ => h
  | v :: vs, hb => (Rel0.wipe h hn fun i hi => hb i (List.mem_cons_of_mem _ hi)).wipe1 hn (hb v List.mem_cons_self)
theorem Rel0.writeN (h : Rel0 G Hd ds ((.new k', .ref p) :: ts) σ H) {o : HO} {d : D} (hr : RepTop G.K (upd H p o) Hd p d) : Rel0 G Hd ds ((.new d, .ref p) :: ts) σ (upd H p o) := by
  obtain ⟨q, e, z1, z2, z3⟩ := h.top
  cases e
  obtain ⟨u, eu, hu⟩ := z1.some
  have hS : ∀ i, ¬ OwnsS ds σ i p := fun i w => h.dST i p w (mem_ownT List.mem_cons_self)
  have hT : p ∉ ownT ts := (List.nodup_cons.mp (show (p :: ownT ts).Nodup from h.dTT)).1
  have h1 : Rel0 G Hd ds ts σ (upd H p o) := h.pop.move (ok := fun q => q ≠ p) (fun q hq n _ => ⟨upd_ne hq, n⟩) (Same.refl _)
    (fun b u e => by rw [upd_ne (fun z => by rw [z, z2] at e; cases e)]; exact h.sub b u e)
    (fun a u e => ⟨by rw [upd_ne (fun z => by rw [z, z3] at e; cases e)]; exact (h.fr a u e).1, (h.fr a u e).2⟩)
    (fun P hP => by
      exact ⟨(h.tab P hP).1.keep (upd_ne (h.notTab eu hu hP)) (fun c φ e => by rw [upd_ne (fun (z : c = p) => RepTop.noExt z1 φ (by rw [← z]; exact e))]; exact e), (h.tab P hP).2.1⟩) (fun i q w z => hS i (z ▸ w)) fun q hq z => hT (z ▸ hq)
  have e : ownT ((R.new d, V.ref p) :: ts) = p :: ownT ts := rfl
  exact { h1 with
    tmp := fun q hq => (List.mem_cons.mp hq).elim (fun z => by rw [z]; exact ⟨p, rfl, hr, z2, z3⟩) (h1.tmp q)
    dST := fun i q w m => by
      rw [e] at m
      rcases List.mem_cons.mp m with z | z
      · exact hS i (z ▸ w)
      · exact h1.dST i q w z
    dTT := by rw [e]; exact List.nodup_cons.mpr ⟨hT, h1.dTT⟩ }
/-- what stands in some slots, as values by the way -/
theorem Rel0.save : ∀ {vs : List Nat} {ts : List (R × V)}, Rel0 G Hd ds ts σ H → ∃ sv, Dats sv ∧ Rel0 G Hd ds (sv ++ ts) σ H ∧ ∀ i ∈ vs, ∀ d, ds[i]? = some (some (.dat d)) → ∃ v, σ[i]? = some (some v) ∧ (R.dat d, v) ∈ sv
  | [], ts, h => ⟨[], (fun _ z => by cases z), h, (fun _ z => by cases z)⟩
  | w :: vs, ts, h => by
    obtain ⟨sv, h1, h2, h3⟩ := Rel0.save (vs := vs) h
    have old : ∀ i ∈ vs, ∀ d, ds[i]? = some (some (.dat d)) → ∃ v, σ[i]? = some (some v) ∧ (R.dat d, v) ∈ sv := h3
    cases e : ds[w]? with
    | none => exact ⟨sv, h1, h2, fun i hi d q => (List.mem_cons.mp hi).elim (fun z => by rw [z, e] at q; cases q) fun z => h3 i z d q⟩
    | some o => cases o with
      | none => exact ⟨sv, h1, h2, fun i hi d q => (List.mem_cons.mp hi).elim (fun z => by rw [z, e] at q; cases q) fun z => h3 i z d q⟩
      | some s =>
        obtain ⟨v, e1, e2⟩ := h2.slot e
        cases s with
        | dat d =>
          refine ⟨(.dat d, v) :: sv, fun p hp => (List.mem_cons.mp hp).elim (fun z => ⟨d, by rw [z]⟩) (h1 p), e2, fun i hi d' q => ?_⟩
          rcases List.mem_cons.mp hi with rfl | hi
          · rw [e] at q; cases q
            exact ⟨v, e1, List.mem_cons_self⟩
          · obtain ⟨v', q1, q2⟩ := h3 i hi d' q
            exact ⟨v', q1, List.mem_cons_of_mem _ q2⟩
        | own _ => exact ⟨sv, h1, h2, fun i hi d q => (List.mem_cons.mp hi).elim (fun z => by rw [z, e] at q; cases q) fun z => h3 i z d q⟩
        | lent _ => exact ⟨sv, h1, h2, fun i hi d q => (List.mem_cons.mp hi).elim (fun z => by rw [z, e] at q; cases q) fun z => h3 i z d q⟩
theorem Rel0.noB (h : Rel0 G Hd ds ts σ H) {vs : List Nat} (ok : okSlots vs ds = true) : ∀ i ∈ vs, G.B i = none := fun i hi => by
  have := List.all_eq_true.mp ok i hi
  cases e : G.B i with
  | none => rfl
  | some p =>
    obtain ⟨⟨d, w⟩, _⟩ := h.bor i p e
    rw [w] at this; cases this
theorem Rel0.restore {Hd1 H1 : Hp} {ds1 : DS} {sv : List (R × V)} {vs : List Nat} (h : Rel0 G Hd ds ts σ H) (ok : okSlots vs ds = true) (hD : Dats sv) (hsv : ∀ i ∈ vs, ∀ d, ds[i]? = some (some (.dat d)) → ∃ v, σ[i]? = some (some v) ∧ (R.dat d, v) ∈ sv)
    (h1 : Rel0 G Hd1 (wipeD ds1 vs) (sv ++ ts.filter keepT) (L2.wipe σ vs) H1) (sh : shapeOk vs ds ds1 = true) : Rel0 G Hd1 (restoreD ds ds1 vs) ts σ H1 := by
  have ll : ds1.length = ds.length := by
    have := h1.sll
    rw [wipeD_length, wipe_length] at this
    rw [this, h.sll]
  have inv : ∀ (i : Nat) (s : SV), (restoreD ds ds1 vs)[i]? = some (some s) → (i ∈ vs ∧ ds[i]? = some (some s)) ∨ (i ∉ vs ∧ (wipeD ds1 vs)[i]? = some (some s)) := fun i s q => by
    rw [restoreD_get] at q
    by_cases hi : i ∈ vs
    · by_cases hl : i < ds1.length
      · rw [if_pos ⟨hi, hl⟩] at q
        refine .inl ⟨hi, ?_⟩
        cases e : ds[i]? with
        | none => rw [e] at q; cases q
        | some o => rw [e] at q; exact q
      · rw [if_neg (fun z => hl z.2), List.getElem?_eq_none (by omega)] at q; cases q
    · rw [if_neg (fun z => hi z.1)] at q
      exact .inr ⟨hi, by rw [wipeD_get, if_neg (fun z => hi z.1)]; exact q⟩
  have sig : ∀ i, i ∉ vs → (L2.wipe σ vs)[i]? = σ[i]? := fun i hi => by rw [wipe_get, if_neg (fun z => hi z.1)]
  have isd : ∀ i ∈ vs, ∀ s, ds[i]? = some (some s) → ∃ d, s = .dat d := fun i hi s e => by
    have := List.all_eq_true.mp ok i hi
    simp only [e] at this
    cases s with
    | dat d => exact ⟨d, rfl⟩
    | _ => cases this
  have os : ∀ (j : Nat) (q : Addr), OwnsS (restoreD ds ds1 vs) σ j q → OwnsS (wipeD ds1 vs) (L2.wipe σ vs) j q := fun j q ⟨⟨s, w1, w2⟩, w3⟩ => by
    rcases inv j s w1 with ⟨a, b⟩ | ⟨a, b⟩
    · obtain ⟨d, rfl⟩ := isd j a s b
      cases w2
    · exact ⟨⟨s, b, w2⟩, by rw [sig j a]; exact w3⟩
  have oT : ownT ts = ownT (sv ++ ts.filter keepT) := by rw [ownT_dats hD, ownT_keep]
  exact { h1 with
    sll := by rw [restoreD_length, ll]; exact h.sll
    slo := fun i s q => by
      rcases inv i s q with ⟨a, b⟩ | ⟨a, b⟩
      · obtain ⟨d, rfl⟩ := isd i a s b
        obtain ⟨v, e1, e2⟩ := hsv i a d b
        exact ⟨v, e1, h1.tmp (.dat d, v) (List.mem_append_left _ e2)⟩
      · obtain ⟨v, e1, e2⟩ := h1.slo i s b
        exact ⟨v, by rw [← sig i a]; exact e1, e2⟩
    bor := fun i q b => by
      have hi : i ∉ vs := fun z => by rw [h.noB ok i z] at b; cases b
      obtain ⟨⟨d, w1⟩, w2⟩ := h1.bor i q b
      rw [wipeD_get, if_neg (fun z => hi z.1)] at w1
      exact ⟨⟨d, by rw [restoreD_get, if_neg (fun z => hi z.1)]; exact w1⟩, by rw [← sig i hi]; exact w2⟩
    tmp := fun q hq => by
      obtain ⟨r, v⟩ := q
      cases r with
      | dat d => exact h1.tmp (.dat d, v) (List.mem_append_right _ (List.mem_filter.mpr ⟨hq, rfl⟩))
      | new d => exact h1.tmp (.new d, v) (List.mem_append_right _ (List.mem_filter.mpr ⟨hq, rfl⟩))
      | «at» i =>
        obtain ⟨e1, s, e2⟩ := h.tmp _ hq
        refine ⟨e1, ?_⟩
        have hl : i < ds.length := (List.getElem?_eq_some_iff.mp e2).1
        rw [restoreD_get]
        by_cases hi : i ∈ vs
        · rw [if_pos ⟨hi, by omega⟩, e2]; exact ⟨s, rfl⟩
        · rw [if_neg (fun z => hi z.1)]
          have := List.all_eq_true.mp sh i (List.mem_range.mpr hl)
          simp only [e2, Bool.or_eq_true, List.contains_iff_mem] at this
          rcases this with (z | z) | z
          · exact absurd z hi
          · cases z
          · cases e3 : ds1[i]? with
            | none => rw [e3] at z; cases z
            | some o => cases o with
              | none => rw [e3] at z; cases z
              | some s' => exact ⟨s', rfl⟩
    dSS := fun j k q a b => h1.dSS j k q (os j q a) (os k q b)
    dST := fun j q a => by rw [oT]; exact h1.dST j q (os j q a)
    dTT := by rw [oT]; exact h1.dTT }
end
section
variable {X : Cx} {G : Gh} {W : L2.WX} {elt tg iter : Expr} {ifs : List Expr} {pos : Pos} {fe f : M R} {ft : M Bool} {g : R → M Unit} {fi : M (List D)} {vs : List Nat}
theorem lc_post {α β : Type} {m : M α} {k : α → M β} {ds : DS} {P : β → DS → Prop} {E E' : String → DS → Prop} (h : Post ((do let a ← m; k a) ds) P E) (ne : ∀ c s, ¬ E c s) : Post (m ds) (fun a s' => Post (k a s') P E) E' := (Post.bind.mp h).mono (fun _ _ z => z) fun c s z => (ne c s z).elim
theorem lc_read (wi : TI) (hwi : wi = iD G W fi) {σ : L2.St} {H : Hp} {Q : VK} (q : tD G W (lcD vs fi g ft fe) σ H Q) :
    tLc wi (tG G W0 (some vs) g) (tT G W0 ft) (tD G W0 fe) vs σ H Q := by
  subst hwi
  obtain ⟨ds, ts, h, p⟩ := q
  refine ⟨ds, ts, h, (Post.bind.mp p).mono (fun items ds1 p1 J tmps H1 hJ hD h1 => ?_) fun _ _ z => z⟩
  have p1 := Post.bind.mp p1
  unfold within at p1
  split at p1
  · rename_i ok
    -- the block's result
    cases hm : lcLoop vs g ft fe items [] ds1 with
    | none => simp only [hm] at p1; exact p1.elim
    | some res =>
      cases res with
      | err c s => simp only [hm] at p1; exact p1.elim
      | ok es dsE =>
        simp only [hm] at p1
        split at p1
        · rename_i sh
          have fin : ∀ v H', Rel G (restoreD ds1 dsE vs) ((.new (.list es), v) :: ts) σ H' → Q v H' := p1
          obtain ⟨Hd1, h1'⟩ := h1
          obtain ⟨sv, sD, s1, s2⟩ := h1'.save (vs := vs)
          have nb := h1'.noB ok
          intro Dn hDn
          have hsub : (sv ++ (tmps ++ ts).filter keepT).Sublist (sv ++ (tmps ++ ts)) := List.Sublist.append (List.Sublist.refl _) List.filter_sublist
          have na : NoAt (sv ++ (tmps ++ ts).filter keepT) := dats_noAt sD (noAt_keep _)
          have tin : ∀ p ∈ tmps, p ∈ sv ++ (tmps ++ ts).filter keepT := fun p hp => List.mem_append_right _ (List.mem_filter.mpr ⟨List.mem_append_left _ hp, by
            obtain ⟨d, e⟩ := hD p hp
            unfold keepT
            rw [e]⟩)
          have b1 := ((s1.sub' hsub).wipe na nb).make (p := Dn) (o := .lst []) (d := .list []) hDn ⟨[], upd_same, .nil⟩
          refine ⟨fun i m H => m = items.length - i ∧ i ≤ items.length ∧ ∃ dsi acc, Rel G (wipeD dsi vs) ((.new (.list acc), .ref Dn) :: (sv ++ (tmps ++ ts).filter keepT)) (wipe σ vs) H ∧ lcLoop vs g ft fe (items.drop i) acc dsi = some (.ok es dsE),
            ⟨items.length, by simp, Nat.zero_le _, ds1, [], ⟨Hd1, b1⟩, by rw [List.drop_zero]; exact hm⟩, ?_⟩
          rintro i m H2 ⟨rfl, hil, dsi, acc, ⟨Hd2, h2⟩, hm2⟩
          have na2 : NoAt ((.new (.list acc), .ref Dn) :: (sv ++ (tmps ++ ts).filter keepT)) := fun p hp => by
            rcases List.mem_cons.mp hp with rfl | hp
            · exact trivial
            · exact na p hp
          obtain ⟨j1, j2⟩ := hJ _ _ _ _ i (fun p hp => List.mem_cons_of_mem _ (tin p hp)) ⟨Hd2, h2⟩
          cases hd : items.drop i with
          | nil =>
            have hi : items.length ≤ i := by
              rcases Nat.lt_or_ge i items.length with z | z
              · rw [List.drop_eq_getElem_cons z] at hd; cases hd
              · exact z
            rw [hd] at hm2
            have hm2 : some (Res.ok acc dsi) = some (Res.ok es dsE) := hm2
            cases hm2
            refine .inl ⟨j2 hi, fin _ _ ⟨Hd2, ?_⟩⟩
            have o2 : Rel0 G Hd2 (wipeD dsE vs) (sv ++ (tmps ++ ts).filter keepT) (wipe σ vs) H2 := h2.pop
            have r2 := h1'.restore ok sD s2 o2 sh
            -- the new list with it
            have hS : ∀ j, ¬ OwnsS (restoreD ds1 dsE vs) σ j Dn := fun j w => by
              obtain ⟨sv', e1, e2, z1, _⟩ := r2.ownsAt w
              have : OwnsS (wipeD dsE vs) (wipe σ vs) j Dn := by
                obtain ⟨⟨s0, w1, w2⟩, w3⟩ := w
                by_cases hj : j ∈ vs
                · rw [restoreD_get] at w1
                  by_cases hl : j < dsE.length
                  · rw [if_pos ⟨hj, hl⟩] at w1
                    have := List.all_eq_true.mp ok j hj
                    cases e : ds1[j]? with
                    | none => rw [e] at w1; cases w1
                    | some o =>
                      rw [e] at w1
                      have w1 : o = some s0 := Option.some.inj w1
                      subst w1
                      simp only [e] at this
                      cases s0 with
                      | dat _ => cases w2
                      | _ => cases this
                  · rw [if_neg (fun z => hl z.2), List.getElem?_eq_none (by omega)] at w1; cases w1
                · rw [restoreD_get, if_neg (fun z => hj z.1)] at w1
                  exact ⟨⟨s0, by rw [wipeD_get, if_neg (fun z => hj z.1)]; exact w1, w2⟩, by rw [wipe_get, if_neg (fun z => hj z.1)]; exact w3⟩
              exact h2.dST j Dn this (mem_ownT List.mem_cons_self)
            have hT : Dn ∉ ownT ts := fun z => by
              have n := h2.dTT
              have e : ownT ((R.new (.list es), V.ref Dn) :: (sv ++ (tmps ++ ts).filter keepT)) = Dn :: ownT (sv ++ (tmps ++ ts).filter keepT) := rfl
              rw [e, ownT_dats sD, ownT_keep, ownT_dats hD] at n
              exact (List.nodup_cons.mp n).1 z
            have r3 : Rel0 G Hd2 (restoreD ds1 dsE vs) ts σ H2 := r2.sub' (List.sublist_append_right _ _)
            have e : ownT ((R.new (.list es), V.ref Dn) :: ts) = Dn :: ownT ts := rfl
            exact { r3 with
              tmp := fun q hq => (List.mem_cons.mp hq).elim (fun z => by rw [z]; exact h2.top) (r3.tmp q)
              dST := fun i q w m => by
                rw [e] at m
                rcases List.mem_cons.mp m with z | z
                · exact hS i (z ▸ w)
                · exact r3.dST i q w z
              dTT := by rw [e]; exact List.nodup_cons.mpr ⟨hT, r3.dTT⟩ }
          | cons d rr =>
            obtain ⟨e1, e2, e3⟩ := drop_get hd
            obtain ⟨go, yl⟩ := j1 d e1
            rw [hd] at hm2
            have p2 : Post ((do
                g (.dat d)
                let b ← ft
                if b then do
                  let y ← fe
                  let e ← frz y
                  lenOk (acc.length + 1)
                  lcLoop vs g ft fe rr (acc ++ [e])
                else lcLoop vs g ft fe rr acc : M (List D)) (wipeD dsi vs)) (fun a s => a = es ∧ s = dsE) (fun _ _ => False) := by
              have e0 : (lcLoop vs g ft fe (d :: rr) acc dsi) = (do
                g (.dat d)
                let b ← ft
                if b then do
                  let y ← fe
                  let e ← frz y
                  lenOk (acc.length + 1)
                  lcLoop vs g ft fe rr (acc ++ [e])
                else lcLoop vs g ft fe rr acc : M (List D)) (wipeD dsi vs) := rfl
              rw [← e0, hm2]
              exact ⟨rfl, rfl⟩
            have ext : ∀ {l : List D} {a' : List D} {s : DS}, Post (lcLoop vs g ft fe l a' s) (fun a s => a = es ∧ s = dsE) (fun _ _ => False) → lcLoop vs g ft fe l a' s = some (.ok es dsE) := fun {l a' s} z => by
              cases hq : lcLoop vs g ft fe l a' s with
              | none => rw [hq] at z; exact z.elim
              | some o => cases o with
                | ok a b => rw [hq] at z; obtain ⟨rfl, rfl⟩ := z; rfl
                | err c b => rw [hq] at z; exact z.elim
            refine .inr ⟨go, fun H' => ∃ dsj acc', Rel G (wipeD dsj vs) ((.new (.list acc'), .ref Dn) :: (sv ++ (tmps ++ ts).filter keepT)) (wipe σ vs) H' ∧ lcLoop vs g ft fe (items.drop (i + 1)) acc' dsj = some (.ok es dsE),
              fun H' ⟨dsj, acc', k1, k2⟩ => ⟨items.length - (i + 1), by omega, rfl, e3, dsj, acc', k1, k2⟩, fun x H3 hy => ?_⟩
            have h3 := yl x H3 hy
            refine ⟨wipeD dsi vs, _, .dat d, na2, h3, lc_post (E' := PErrS G W0 _) p2 (fun _ _ z => z) |>.mono (fun _ ds4 p4 σ4 H4 kp h4 => ?_) fun _ _ z => z⟩
            have kp : wipe σ4 vs = wipe σ vs := (kp vs rfl).trans (by
              apply List.ext_getElem?
              intro j
              simp only [wipe_get, wipe_length]
              by_cases hj : j ∈ vs ∧ j < σ.length
              · rw [if_pos hj, if_pos hj]
              · rw [if_neg hj])
            refine ⟨kp, ds4, _, h4, lc_post (E' := PErr G W0 _ σ4) p4 (fun _ _ z => z) |>.mono (fun b ds5 p5 H5 h5 => ?_) fun _ _ z => z⟩
            cases b with
            | false =>
              obtain ⟨Hd5, h5⟩ := h5
              have w5 := h5.wipe na2 nb
              rw [kp] at w5
              exact ⟨ds5, acc, ⟨Hd5, w5⟩, by rw [e2]; exact ext p5⟩
            | true =>
              refine ⟨ds5, _, h5, lc_post (E' := PErr G W0 _ σ4) p5 (fun _ _ z => z) |>.mono (fun y ds6 p6 v6 H6 h6 => ?_) fun _ _ z => z⟩
              obtain ⟨e, ds7, ⟨Hd7, h7⟩, p7⟩ := Rel.frz1 h6 p6
              obtain ⟨c, p7⟩ := Post.need (b := decide _) p7
              have ry : Rep G.K Hd7 v6 e := h7.top
              obtain ⟨q, eq, ⟨xs, w1, w2⟩, w3, w4⟩ := h7.pop.top
              cases eq
              refine ⟨xs, w1, by have := of_decide_eq_true c; rw [w2.length, sizeLine_eq]; omega, ds7, acc ++ [e], ?_, by rw [e2]; exact ext p7⟩
              have w7 := (h7.pop.writeN (o := .lst (xs ++ [v6])) (d := .list (acc ++ [e])) ⟨_, upd_same, w2.append (.cons ry .nil)⟩).wipe (vs := vs) (fun p hp => by
                rcases List.mem_cons.mp hp with rfl | hp
                · exact trivial
                · exact na p hp) nb
              rw [kp] at w7
              exact ⟨Hd7, w7⟩
        · exact p1.elim
  · exact p1.elim
theorem dts_nil : PTs X [] (tT G W (pure true)) := ⟨fun pins s σ H Q I q => pts_nil.run pins s σ H Q I (by
  obtain ⟨ds, ts, h, p⟩ := q
  exact p H h)⟩
theorem dts_one {c : Expr} (h : PT X c (tT G W ft)) : PTs X [c] (tT G W ft) := pts_one h
theorem de_lc {scope : Scope} {own : List (Str × Nat)} (hc : X.calm = true) (hN : X.N.Nodup) (hi : PI X tg iter (iD G W fi)) (ok : BlkOk X.N X.env.scope scope own)
    (hg : ∀ (s : Shared) (H : Hp) (C : Addr) (cl : List (Str × Addr)) (fp : List Addr), PG (X.blk s H scope (compEnvC scope cl C X.env) fp) tg (tG G W0 (some (own.map (·.2))) g)) (ht : ∀ (s : Shared) (H : Hp) (C : Addr) (cl : List (Str × Addr)) (fp : List Addr), PTs (X.blk s H scope (compEnvC scope cl C X.env) fp) ifs (tT G W0 ft))
    (he : ∀ (s : Shared) (H : Hp) (C : Addr) (cl : List (Str × Addr)) (fp : List Addr), PE (X.blk s H scope (compEnvC scope cl C X.env) fp) elt (tD G W0 fe)) (hs : ∀ x, foldedSetIterable iter X.env x = pure x := by intro _; rfl) :
    PE X (.ListComp elt [⟨tg, iter, ifs, 0⟩] scope pos) (tD G W (lcD (own.map (·.2)) fi g ft fe)) :=
  pe_imp (pe_lc hc hN hi ok hg ht he hs) fun _ _ _ q => lc_read _ rfl q
theorem ds_setLc {scope : Scope} {own : List (Str × Nat)} {i : Nat} {y : Str} {py spos : Pos} (hc : X.calm = true) (hN : X.N.Nodup) (hy : X.N[i]? = some y) (hyl : X.env.scope.names.lookup y = some .local)
    (hsw : swapsWith (.ListComp elt [⟨tg, iter, ifs, 0⟩] scope pos) (some (.Name y py)) spos.line X.env = pure true) (hi : PI X tg iter (iD G W fi)) (ok : BlkOk X.N X.env.scope scope own)
    (hg : ∀ (s : Shared) (H : Hp) (C : Addr) (cl : List (Str × Addr)) (fp : List Addr), PG (X.blk s H scope (compEnvC scope cl C X.env) fp) tg (tG G W0 (some (own.map (·.2))) g)) (ht : ∀ (s : Shared) (H : Hp) (C : Addr) (cl : List (Str × Addr)) (fp : List Addr), PTs (X.blk s H scope (compEnvC scope cl C X.env) fp) ifs (tT G W0 ft))
    (he : ∀ (s : Shared) (H : Hp) (C : Addr) (cl : List (Str × Addr)) (fp : List Addr), PE (X.blk s H scope (compEnvC scope cl C X.env) fp) elt (tD G W0 fe)) (hs : ∀ x, foldedSetIterable iter X.env x = pure x := by intro _; rfl) :
    PS X (.Assign [.Name y py] (.ListComp elt [⟨tg, iter, ifs, 0⟩] scope pos) spos) (tS G W (do let r ← lcD (own.map (·.2)) fi g ft fe; putSl i r; pure .nx)) :=
  ds_set (ps_imp (ps_setLc hc hN hy hyl hsw hi ok hg ht he hs) fun _ _ _ q => lc_read _ rfl q)
end
end Den
/-! DenJ: methods of lists; calls of defs; what a def promises -/
namespace Den
open PySem PySem.Spec PyProof.Rows L2
section
variable {X : Cx} {G : Gh} {W : L2.WX} {a e o : Expr} {es : List Expr} {pos apos : Pos} {fa f fo : M R} {fr : M (List R)}
/-! ### methods -/
def isList : D → Bool
  | .list _ => true
  | _ => false
def gAppend (o : R) (rs : List R) : M R := do
  let r ← one rs
  let d ← frz r
  modAt o fun c => match c with
    | .list es => if es.length < 16777216 then some (.list (es ++ [d])) else none
    | _ => none
  pure (.dat .none)
theorem bindOk {α β : Type} {m : M α} {k : α → M β} {ds : DS} {P : β → DS → Prop} {E : String → DS → Prop} (h : Post ((m >>= k) ds) P E) : Post (m ds) (fun a s' => Post (k a s') P E) E := Post.bind.mp h
theorem tyL {H Hd : Hp} {ds : DS} {ts : List (R × V)} {σ : L2.St} {r : R} {v : V} {d : D} (h : Rel0 G Hd ds ts σ H) (e : RepR G H Hd ds σ r v) (hd : dOf ds r = some d) (hl : isList d = true) : tyV G.K "list" v H := by
  cases d with
  | list es => obtain ⟨a, xs, rfl, e1, _⟩ := h.list e hd; exact .inl ⟨rfl, xs, SqL.of e1⟩
  | _ => cases hl
theorem do_append {o' : R} {ov : V} {rs : List R} {vs : List V} {ds : DS} {ts : List (R × V)} {σ : L2.St} {H : Hp} {Q : VK} (hl : vs.length = rs.length) (h : Rel G ds (rs.zip vs ++ ((o', ov) :: ts)) σ H) (p : pD G W (gAppend o' rs ds) ts σ Q) : rAppend ov vs H Q := by
  obtain ⟨r, v, rfl, rfl, p⟩ := one_of hl p
  have h : Rel G ds ((r, v) :: (o', ov) :: ts) σ H := h
  obtain ⟨d, ds1, ⟨Hd, h1⟩, p1⟩ := Rel.frz1 h p
  have rv : Rep G.K Hd v d := h1.top
  obtain ⟨a, c, c', e1, _, hg, ht, fin⟩ := modAt_ok h1.pop (bindOk p1)
  cases c with
  | list es =>
    obtain ⟨xs, w1, w2⟩ := ht
    simp only at hg
    split at hg
    · rename_i hz
      cases hg
      obtain ⟨ds2, q1, q2⟩ := fin (.lst (xs ++ [v])) ⟨_, upd_same, w2.append (.cons rv .nil)⟩
      exact ⟨a, xs, v, e1, rfl, w1, by rw [w2.length, sizeLine_eq]; exact hz, q1 _ _ (Rel.flat ⟨Hd, q2⟩ flat_non)⟩
    · cases hg
  | _ => cases hg
theorem de_append (hK : X.K = G.K) (ho : PE X o (tD G W fo)) (ha : PA X (e :: es) (tA G W fr))
    (h : ∀ {to : TE} {t : TA}, PE X o to → PA X (e :: es) t → PE X (.Call (.Attribute o "append" apos) (e :: es) [] pos) (tBM X.K "list" rAppend to t)) :
    PE X (.Call (.Attribute o "append" apos) (e :: es) [] pos) (tD G W (do let ov ← fo; let d ← dat ov; need (isList d); let rs ← fr; gAppend ov rs)) := pe_imp (h ho ha) fun σ H Q q => by
  obtain ⟨ds, ts, h, p⟩ := q
  refine tD.go (k := fun x => pure x) h (Post.bind.mp p) fun ro ds1 ov H1 p1 h1 => ?_
  obtain ⟨d, hd, p1⟩ := Post.dat (r := ro) p1
  obtain ⟨c, p1⟩ := Post.need (b := isList d) p1
  obtain ⟨Hd, h1'⟩ := id h1
  refine ⟨hK ▸ tyL h1' h1'.top hd c, ?_⟩
  exact tA.go h1 ((Post.bind.mp p1).mono (fun _ _ z => z) fun _ _ z => z.push) fun rs ds2 vs H2 p2 hl h2 => do_append hl h2 p2
def gPop (o : R) : M R := do
  let d ← dat o
  match d with
  | .list es => match es[es.length - 1]? with
    | some x => do modAt o (fun _ => some (.list es.dropLast)); pure (.dat x)
    | none => fail
  | _ => fail
theorem de_pop (hK : X.K = G.K) (ho : PE X o (tD G W fo))
    (h : ∀ {to : TE}, PE X o to → PE X (.Call (.Attribute o "pop" apos) [] [] pos) (tBM0 X.K "list" rPop to)) :
    PE X (.Call (.Attribute o "pop" apos) [] [] pos) (tD G W (do let ov ← fo; gPop ov)) := pe_imp (h ho) fun σ H Q q => by
  obtain ⟨ds, ts, h, p⟩ := q
  refine tD.go (k := fun x => pure x) h (Post.bind.mp p) fun ro ds1 ov H1 p1 h1 => ?_
  obtain ⟨d, hd, p1⟩ := Post.dat (r := ro) p1
  obtain ⟨Hd, h1'⟩ := id h1
  cases d with
  | list es =>
    refine ⟨hK ▸ tyL h1' h1'.top hd rfl, ?_⟩
    simp only at p1
    cases hx : es[es.length - 1]? with
    | none => simp only [hx] at p1; exact p1.elim
    | some x =>
      simp only [hx] at p1
      obtain ⟨a, xs, e1, w1, w2⟩ := h1'.list h1'.top hd
      obtain ⟨a', c, c', e2, hd2, hg, ht, fin⟩ := modAt_ok h1' (bindOk p1)
      cases hg
      have ea : a' = a := by have e1 : ov = .ref a := e1; have e2 : ov = .ref a' := e2; rw [e1] at e2; cases e2; rfl
      subst ea
      rw [hd] at hd2; cases hd2
      obtain ⟨y, hy, ry⟩ := w2.get hx
      obtain ⟨ds2, q1, q2⟩ := fin (.lst xs.dropLast) ⟨_, upd_same, w2.dropLast⟩
      exact ⟨a', xs, y, e1, rfl, w1, by rw [w2.length]; exact hy, q1 _ _ ⟨Hd, q2.pushD ry⟩⟩
  | _ => exact p1.elim

/-! ### what a def promises -/
inductive RR where
  | dat (d : D) | own (d : D)
inductive FRes where
  | ok (r : RR) (outs : List D)
  | err (c : String) (outs : List D)
/-- the arguments: lent or not -/
abbrev FD := List (Bool × D) → Option FRes
/-- the lent objects by their slots -/
def lentAt (args : List (Bool × D)) (vs : List V) (i : Nat) : Option Addr := match args[i]?, vs[i]? with
  | some (true, _), some (.ref p) => some p
  | _, _ => none
/-- what holds of the arguments -/
structure ArgsOk (G : Gh) (H : Hp) (args : List (Bool × D)) (vs : List V) : Prop where
  len : vs.length = args.length
  dat : ∀ (i : Nat) (d : D), args[i]? = some (false, d) → ∃ v, vs[i]? = some v ∧ Rep G.K G.V v d
  lent : ∀ (i : Nat) (d : D), args[i]? = some (true, d) → ∃ p, vs[i]? = some (.ref p) ∧ Own G H G.V p d
  inj : ∀ (i j : Nat) (p : Addr), lentAt args vs i = some p → lentAt args vs j = some p → i = j
  bor : G.B = lentAt args vs
  fr : ∀ a o, G.F a = some o → H a = some o ∧ G.V a = none
  sub : Same G.V H
  tab : ∀ P ∈ G.T, TabN H P ∧ G.V P.1 = none ∧ G.F P.1 = none
/-- the lent objects behind a call -/
inductive LentOk (P : Addr → D → Prop) : List (Bool × D) → List V → List D → Prop
  | nil : LentOk P [] [] []
  | dat {d : D} {v : V} {args : List (Bool × D)} {vs : List V} {outs : List D} : LentOk P args vs outs → LentOk P ((false, d) :: args) (v :: vs) outs
  | lent {d d' : D} {p : Addr} {args : List (Bool × D)} {vs : List V} {outs : List D} : P p d' → LentOk P args vs outs → LentOk P ((true, d) :: args) (.ref p :: vs) (d' :: outs)
/-- what a call leaves -/
structure Left (G : Gh) (args : List (Bool × D)) (vs : List V) (outs : List D) (H' Hd' : Hp) : Prop where
  fr : ∀ a o, G.F a = some o → H' a = some o ∧ Hd' a = none
  vis : Same G.V Hd'
  sub : Same Hd' H'
  tab : ∀ P ∈ G.T, TabN H' P ∧ Hd' P.1 = none
  lent : LentOk (Own G H' Hd') args vs outs
def ResOk (G : Gh) (H' Hd' : Hp) : RR → V → Prop
  | .dat d, v => Rep G.K Hd' v d
  | .own d, v => ∃ p, v = .ref p ∧ Own G H' Hd' p d ∧ ∀ i, G.B i ≠ some p
/-- the promise -/
def spD (K : PySem.W.Frag) (T : List (Addr × Option Str)) (cls : String → Option Value) (n : Nat) (f : FD) : Sp := fun vs H Q E => vs.length = n ∧ ∃ (G : Gh) (args : List (Bool × D)), G.K = K ∧ G.T = T ∧ G.cls = cls ∧ ArgsOk G H args vs ∧ match f args with
  | none => False
  | some (.ok r outs) => ∀ v H' Hd', Left G args vs outs H' Hd' → ResOk G H' Hd' r v → Q v H'
  | some (.err c outs) => ∃ cv, cls c = some cv ∧ ∀ H' Hd', Left G args vs outs H' Hd' → E cv none H'

/-! ### a def's body -/
def argS : List (Bool × D) → DS
  | [] => []
  | (false, d) :: r => some (.dat d) :: argS r
  | (true, d) :: r => some (.lent d) :: argS r
theorem argS_get : ∀ (args : List (Bool × D)) (i : Nat), (argS args)[i]? = (args[i]?).map fun p => some (if p.1 then SV.lent p.2 else SV.dat p.2)
  | [], i => by simp [argS]
  | (false, d) :: r, 0 => rfl
  | (true, d) :: r, 0 => rfl
  | (false, d) :: r, i + 1 => by simp only [argS, List.getElem?_cons_succ]; exact argS_get r i
  | (true, d) :: r, i + 1 => by simp only [argS, List.getElem?_cons_succ]; exact argS_get r i
theorem argS_length (args : List (Bool × D)) : (argS args).length = args.length := by
  induction args with
  | nil => rfl
  | cons p r ih => obtain ⟨b, d⟩ := p; cases b <;> simp [argS, ih]
/-- the state at the entry: n names -/
def ds0 (n : Nat) (args : List (Bool × D)) : DS := argS args ++ List.replicate (n - args.length) none
def outsFrom (ds : DS) : Nat → List (Bool × D) → Option (List D)
  | _, [] => some []
  | i, (false, _) :: r => outsFrom ds (i + 1) r
  | i, (true, _) :: r => match ds[i]? with
    | some (some (.lent d)) => (outsFrom ds (i + 1) r).map (d :: ·)
    | _ => none
def outsOf (args : List (Bool × D)) (ds : DS) : Option (List D) := outsFrom ds 0 args
def finD (args : List (Bool × D)) (fl : Fl) (ds : DS) : Option FRes := match outsOf args ds with
  | none => none
  | some outs => match fl with
    | .nx => some (.ok (.dat .none) outs)
    | .rt (.dat d) => some (.ok (.dat d) outs)
    | .rt (.new d) => some (.ok (.own d) outs)
    | .rt (.at i) => match ds[i]? with
      | some (some (.own d)) => some (.ok (.own d) outs)
      | some (some (.dat d)) => some (.ok (.dat d) outs)
      | _ => none
    | _ => none
def runF (n : Nat) (fb : M Fl) : FD := fun args => match fb (ds0 n args) with
  | none => none
  | some (.ok fl ds) => finD args fl ds
  | some (.err c ds) => (outsOf args ds).map fun outs => .err c outs
theorem outs_ok {P : Addr → D → Prop} {ds : DS} : ∀ {args : List (Bool × D)} {vs : List V} {outs : List D} {k : Nat}, vs.length = args.length → (∀ (i : Nat) (d : D), args[i]? = some (true, d) → ∃ p d', vs[i]? = some (.ref p) ∧ ds[k + i]? = some (some (.lent d')) ∧ P p d') → outsFrom ds k args = some outs → LentOk P args vs outs
  | [], [], outs, k, _, _, h => by cases h; exact .nil
  | (false, d) :: args, v :: vs, outs, k, hl, hp, h => .dat (outs_ok (k := k + 1) (by simpa using hl) (fun i d' e => by
      obtain ⟨p, q, e1, e2, e3⟩ := hp (i + 1) d' (by simpa using e)
      exact ⟨p, q, by simpa using e1, by rw [show k + 1 + i = k + (i + 1) by omega]; exact e2, e3⟩) h)
  | (true, d) :: args, v :: vs, outs, k, hl, hp, h => by
    obtain ⟨p, q, e1, e2, e3⟩ := hp 0 d rfl
    have e1 : some v = some (V.ref p) := e1
    cases e1
    have e2 : ds[k]? = some (some (.lent q)) := e2
    unfold outsFrom at h
    rw [e2] at h
    simp only at h
    cases ho : outsFrom ds (k + 1) args with
    | none => rw [ho] at h; cases h
    | some r =>
      rw [ho] at h
      cases h
      exact .lent e3 (outs_ok (k := k + 1) (by simpa using hl) (fun i d' e => by
        obtain ⟨p, q, e1, e2, e3⟩ := hp (i + 1) d' (by simpa using e)
        exact ⟨p, q, by simpa using e1, by rw [show k + 1 + i = k + (i + 1) by omega]; exact e2, e3⟩) ho)
  | [], _ :: _, _, _, hl, _, _ => by simp at hl
  | _ :: _, [], _, _, hl, _, _ => by simp at hl
theorem rel_start {H : Hp} {args : List (Bool × D)} {vs : List V} {N : List Str} (h : ArgsOk G H args vs) (hn : args.length ≤ N.length) : Rel0 G G.V (ds0 N.length args) [] (L2.start N vs) H := by
  have sl : ∀ (i : Nat) (s : SV), (ds0 N.length args)[i]? = some (some s) → ∃ p, args[i]? = some p ∧ s = (if p.1 then SV.lent p.2 else SV.dat p.2) := fun i s e => by
    unfold ds0 at e
    by_cases hi : i < args.length
    · rw [List.getElem?_append_left (by rw [argS_length]; exact hi), argS_get] at e
      cases ha : args[i]? with
      | none => rw [ha] at e; cases e
      | some p => rw [ha] at e; cases e; exact ⟨p, rfl, rfl⟩
    · rw [List.getElem?_append_right (by rw [argS_length]; omega), List.getElem?_replicate] at e
      split at e <;> cases e
  have st : ∀ (i : Nat) (v : V), vs[i]? = some v → (L2.start N vs)[i]? = some (some v) := fun i v e => by
    unfold L2.start
    rw [List.getElem?_append_left (by simpa using (List.getElem?_eq_some_iff.mp e).1), List.getElem?_map, e]; rfl
  have own : ∀ (i : Nat) (p : Addr), OwnsS (ds0 N.length args) (L2.start N vs) i p → lentAt args vs i = some p := fun i p ⟨⟨s, e1, e2⟩, e3⟩ => by
    obtain ⟨⟨b, d⟩, ha, rfl⟩ := sl i s e1
    cases b with
    | false => cases e2
    | true =>
      obtain ⟨q, hq, _⟩ := h.lent i d ha
      rw [st i _ hq] at e3
      cases e3
      unfold lentAt
      rw [ha, hq]
  refine ⟨h.fr, Same.refl _, h.sub, ?_, fun i s e => ?_, fun i p e => ?_, (fun p hp => by cases hp), (fun i j p a b => h.inj i j p (own i p a) (own j p b)), (fun i p _ m => by cases m), List.nodup_nil, h.tab⟩
  · unfold ds0 L2.start
    rw [List.length_append, List.length_append, argS_length, List.length_replicate, List.length_map, List.length_replicate, h.len]
  · obtain ⟨⟨b, d⟩, ha, rfl⟩ := sl i s e
    cases b with
    | false =>
      obtain ⟨v, e1, e2⟩ := h.dat i d ha
      exact ⟨v, st i v e1, e2⟩
    | true =>
      obtain ⟨p, e1, e2⟩ := h.lent i d ha
      exact ⟨.ref p, st i _ e1, p, rfl, e2⟩
  · rw [h.bor] at e
    unfold lentAt at e
    split at e
    · rename_i d q ha hv
      cases e
      refine ⟨⟨d, ?_⟩, st i _ hv⟩
      unfold ds0
      rw [List.getElem?_append_left (by rw [argS_length]; exact (List.getElem?_eq_some_iff.mp ha).1), argS_get, ha]; rfl
    · cases e
theorem left_of {H H' Hd' : Hp} {args : List (Bool × D)} {vs : List V} {outs : List D} {ds : DS} {ts : List (R × V)} {σ : L2.St} (h : ArgsOk G H args vs) (r : Rel0 G Hd' ds ts σ H') (ho : outsOf args ds = some outs) : Left G args vs outs H' Hd' := by
  refine ⟨r.fr, r.vis, r.sub, fun P hP => ⟨(r.tab P hP).1, (r.tab P hP).2.1⟩, outs_ok h.len (fun i d ha => ?_) ho⟩
  obtain ⟨p, hv, _⟩ := h.lent i d ha
  have hB : G.B i = some p := by
    rw [h.bor]; unfold lentAt; rw [ha, hv]
  obtain ⟨⟨d', w1⟩, w2⟩ := r.bor i p hB
  obtain ⟨v, e1, q, e2, e3⟩ := r.slo i _ w1
  rw [w2] at e1; cases e1; cases e2
  exact ⟨p, d', hv, by rw [Nat.zero_add]; exact w1, e3⟩
theorem fnD {P : Program} {w : World} {K : PySem.W.Frag} {mg : Str → Option Value} {base : Heap} {k : Nat} {fA : Addr} {name qual : Str} {params : Arguments} {body : List Stmt} {scope : Scope} {dV kV doc pm cdv ct oc : Value} {an od : Option Addr}
    {osl : Array (Option Value)} {N ps : List Str} {T : List (Addr × Option Str)} {cls : String → Option Value} {fb : M Fl}
    (lk : K.lookup fA = some ⟨oc, od, .func (PySem.W.fnOf name qual params body scope dV kV doc pm an cdv ct), osl⟩) (hcd : PySem.W.codeIn K cdv qual = true) (S : FnScope N ps scope)
    (hbody : ∀ (A : Around) (outer : List Env) (s : Shared) (H : Hp) (E : XK) (G : Gh), G.K = K → G.T = T → G.cls = cls → Room k (A.deeper (envOfC qual scope s.heap.objs.size fA cdv)) →
      PSs (cxOf (CX P w) P w K mg base N qual scope fA cdv A outer s H E) body (tS G (fun c d _ H' => E c d H') fb)) :
    FnOk P w K mg base (CX P w) (k + 1) fA (PySem.W.fnOf name qual params body scope dV kV doc pm an cdv ct) ps (spD K T cls ps.length (runF N.length fb)) := by
  refine fn_of lk hcd S (fun vs H Q E h => h.1) fun A outer s H vs Q E hr hsp => ?_
  obtain ⟨hl, G, args, hK, hT, hc, ha, hq⟩ := hsp
  refine ⟨_, hbody A outer s H E G hK hT hc hr, ?_⟩
  have hpl : ps.length ≤ N.length := by have := congrArg List.length S.pre; rw [List.length_take] at this; omega
  have r0 := rel_start (N := N) ha (by rw [← ha.len, hl]; exact hpl)
  refine ⟨ds0 N.length args, [], (fun _ z => by cases z), ⟨_, r0⟩, ?_⟩
  unfold runF at hq
  cases hf : fb (ds0 N.length args) with
  | none => rw [hf] at hq; exact hq
  | some res =>
    cases res with
    | err c ds =>
      rw [hf] at hq
      simp only at hq
      cases ho : outsOf args ds with
      | none => rw [ho] at hq; exact hq.elim
      | some outs =>
        rw [ho] at hq
        obtain ⟨cv, e1, e2⟩ := hq
        exact ⟨cv, by rw [hc]; exact e1, fun σ' H' ⟨Hd', r⟩ => e2 H' Hd' (left_of ha r ho)⟩
    | ok fl ds =>
      rw [hf] at hq
      simp only [finD] at hq
      cases ho : outsOf args ds with
      | none => rw [ho] at hq; exact hq.elim
      | some outs =>
        rw [ho] at hq
        simp only at hq
        cases fl with
        | nx => exact fun σ' H' ⟨Hd', r⟩ => hq _ _ _ (left_of ha r ho) .non
        | bk => exact hq.elim
        | ct => exact hq.elim
        | rt rv =>
          intro v σ' H' ⟨Hd', r⟩
          have lf := left_of ha r.pop ho
          have nb : ∀ p, (∀ i, ¬ OwnsS ds σ' i p) → ∀ i, G.B i ≠ some p := fun p hp i e => by
            obtain ⟨⟨d, w1⟩, w2⟩ := r.bor i p e
            exact hp i ⟨⟨_, w1, rfl⟩, w2⟩
          cases rv with
          | dat d => exact hq _ _ _ lf r.top
          | new d =>
            obtain ⟨p, e1, e2⟩ := r.top
            have e1 : v = .ref p := e1
            subst e1
            exact hq _ _ _ lf ⟨p, rfl, e2, nb p fun i z => r.dST i p z (mem_ownT List.mem_cons_self)⟩
          | «at» i =>
            simp only at hq
            obtain ⟨e1, s, e2⟩ := r.top
            obtain ⟨v', e3, e4⟩ := r.slo i s e2
            rw [e1] at e3; cases e3
            rw [e2] at hq
            cases s with
            | dat d => exact hq _ _ _ lf e4
            | lent d => exact hq.elim
            | own d =>
              obtain ⟨p, e5, e6⟩ := e4
              subst e5
              refine hq _ _ _ lf ⟨p, rfl, e6, fun j z => ?_⟩
              obtain ⟨⟨d', w1⟩, w2⟩ := r.bor j p z
              have := r.dSS i j p ⟨⟨_, e2, rfl⟩, e1⟩ ⟨⟨_, w1, rfl⟩, w2⟩
              subst this
              rw [e2] at w1; cases w1
end
end Den
/-! DenK: calls of defs -/
namespace Den
open PySem PySem.Spec PyProof.Rows L2
/-- an argument: lent if it may be, else plain data -/
def prepA (m : Bool) (r : R) : M R := match m, r with
  | true, .at i => pure (.at i)
  | _, r => do let d ← frz r; pure (.dat d)
def prep : List Bool → List R → M (List R)
  | _, [] => pure []
  | ms, r :: rs => do
    let q ← prepA (ms.headD false) r
    let qs ← prep ms.tail rs
    pure (q :: qs)
def argOf (ds : DS) : R → Option (Bool × D)
  | .dat d => some (false, d)
  | .new _ => none
  | .at i => match ds[i]? with
    | some (some (.dat d)) => some (false, d)
    | some (some (.own d)) => some (true, d)
    | some (some (.lent d)) => some (true, d)
    | _ => none
def argsOf (ds : DS) : List R → Option (List (Bool × D))
  | [] => some []
  | r :: rs => match argOf ds r, argsOf ds rs with
    | some a, some as => some (a :: as)
    | _, _ => none
/-- the new content of the lent slots -/
def nwOf : List R → List (Bool × D) → List D → Nat → Option D
  | .at j :: rs, (true, _) :: args, d :: outs, i => if i = j then some d else nwOf rs args outs i
  | _ :: rs, (false, _) :: args, outs, i => nwOf rs args outs i
  | _, _, _, _ => none
def setS (d : D) : SV → SV
  | .dat _ => .dat d
  | .own _ => .own d
  | .lent _ => .lent d
def updF (nw : Nat → Option D) : Nat → DS → DS
  | _, [] => []
  | i, s :: r => (match nw i with
    | some d => s.map (setS d)
    | none => s) :: updF nw (i + 1) r
theorem updF_get (nw : Nat → Option D) : ∀ (ds : DS) (i j : Nat), (updF nw i ds)[j]? = (ds[j]?).map fun s => match nw (i + j) with
    | some d => s.map (setS d)
    | none => s
  | [], i, j => by simp [updF]
  | s :: r, i, 0 => rfl
  | s :: r, i, j + 1 => by
    simp only [updF, List.getElem?_cons_succ]
    rw [updF_get nw r (i + 1) j, show i + 1 + j = i + (j + 1) by omega]
theorem updF_length (nw : Nat → Option D) : ∀ (ds : DS) (i : Nat), (updF nw i ds).length = ds.length
  | [], _ => rfl
  | _ :: r, i => by simp [updF, updF_length nw r (i + 1)]
/-- no slot is lent twice -/
def lentSlots : List R → List (Bool × D) → List Nat
  | .at j :: rs, (true, _) :: args => j :: lentSlots rs args
  | _ :: rs, _ :: args => lentSlots rs args
  | _, _ => []
def resR : RR → R
  | .dat d => .dat d
  | .own d => .new d
def callD (f : FD) (ms : List Bool) (rs : List R) : M R := do
  let qs ← prep ms rs
  fun ds => match argsOf ds qs with
    | none => none
    | some args => if (lentSlots qs args).Nodup then
        match f args with
        | none => none
        | some (.ok r outs) => some (.ok (resR r) (updF (nwOf qs args outs) 0 ds))
        | some (.err c outs) => some (.err c (updF (nwOf qs args outs) 0 ds))
      else none
theorem argsOf_get {ds : DS} : ∀ {rs : List R} {args : List (Bool × D)}, argsOf ds rs = some args → rs.length = args.length ∧ ∀ (i : Nat) (a : Bool × D), args[i]? = some a → ∃ r, rs[i]? = some r ∧ argOf ds r = some a
  | [], args, h => by cases h; exact ⟨rfl, fun i a e => by simp at e⟩
  | r :: rs, args, h => by
    unfold argsOf at h
    cases h1 : argOf ds r with
    | none => rw [h1] at h; cases h
    | some a =>
      cases h2 : argsOf ds rs with
      | none => rw [h1, h2] at h; cases h
      | some as =>
        rw [h1, h2] at h
        cases h
        obtain ⟨l, g⟩ := argsOf_get h2
        refine ⟨by simp [l], fun i b e => ?_⟩
        cases i with
        | zero => simp at e; subst e; exact ⟨r, rfl, h1⟩
        | succ i => exact g i b (by simpa using e)
theorem lentSlots_get : ∀ {rs : List R} {args : List (Bool × D)}, rs.length = args.length → (lentSlots rs args).Nodup → ∀ (i j s : Nat) (d e : D), rs[i]? = some (.at s) → args[i]? = some (true, d) → rs[j]? = some (.at s) → args[j]? = some (true, e) → i = j
  | [], _, _, _, i, j, s, d, e, h1, _, _, _ => by simp at h1
  | r :: rs, [], hl, _, _, _, _, _, _, _, _, _, _ => by simp at hl
  | r :: rs, (b, x) :: args, hl, hn, i, j, s, d, e, h1, h2, h3, h4 => by
    have mem : ∀ {rs : List R} {args : List (Bool × D)} {k : Nat} {s : Nat} {d : D}, rs[k]? = some (.at s) → args[k]? = some (true, d) → s ∈ lentSlots rs args := by
      intro rs
      induction rs with
      | nil => intro args k s d z; simp at z
      | cons q rs ih =>
        intro args k s d z1 z2
        cases args with
        | nil => simp at z2
        | cons a args =>
          obtain ⟨b, x⟩ := a
          cases k with
          | zero =>
            simp at z1 z2
            obtain ⟨rfl, _⟩ := z2
            subst z1
            exact List.mem_cons_self
          | succ k =>
            have z := ih (args := args) (k := k) (by simpa using z1) (by simpa using z2)
            cases q <;> cases b <;> first | exact z | exact List.mem_cons_of_mem _ z
    have hn' : (lentSlots rs args).Nodup := by
      cases r <;> cases b <;> first | exact hn | exact (List.nodup_cons.mp hn).2
    have ih := lentSlots_get (rs := rs) (args := args) (by simpa using hl) hn'
    cases i with
    | zero =>
      simp at h1 h2
      obtain ⟨rfl, _⟩ := h2
      subst h1
      cases j with
      | zero => rfl
      | succ j => exact absurd (mem (by simpa using h3) (by simpa using h4)) (List.nodup_cons.mp hn).1
    | succ i =>
      cases j with
      | zero =>
        simp at h3 h4
        obtain ⟨rfl, _⟩ := h4
        subst h3
        exact absurd (mem (by simpa using h1) (by simpa using h2)) (List.nodup_cons.mp hn).1
      | succ j => exact congrArg (· + 1) (ih i j s d e (by simpa using h1) (by simpa using h2) (by simpa using h3) (by simpa using h4))
theorem nw_some {P : Addr → D → Prop} : ∀ {rs : List R} {args : List (Bool × D)} {vs : List V} {outs : List D}, LentOk P args vs outs → ∀ (j : Nat) (d' : D), nwOf rs args outs j = some d' → ∃ (i : Nat) (p : Addr) (d : D), rs[i]? = some (.at j) ∧ args[i]? = some (true, d) ∧ vs[i]? = some (.ref p) ∧ P p d'
  | [], _, _, _, _, j, d', h => by unfold nwOf at h; cases h
  | r :: rs, _, _, _, .nil, j, d', h => by unfold nwOf at h; cases r <;> cases h
  | r :: rs, _, _, _, .dat (args := args) (outs := outs) l, j, d', h => by
    have h : nwOf rs args outs j = some d' := by cases r <;> exact h
    obtain ⟨i, p, d, e1, e2, e3, e4⟩ := nw_some l j d' h
    exact ⟨i + 1, p, d, by simpa using e1, by simpa using e2, by simpa using e3, e4⟩
  | r :: rs, _, _, _, .lent (d := d0) (d' := d1) (p := p0) hp l, j, d', h => by
    cases r with
    | «at» k =>
      unfold nwOf at h
      split at h
      · rename_i e
        subst e
        cases h
        exact ⟨0, p0, d0, rfl, rfl, rfl, hp⟩
      · obtain ⟨i, p, d, e1, e2, e3, e4⟩ := nw_some l j d' h
        exact ⟨i + 1, p, d, by simpa using e1, by simpa using e2, by simpa using e3, e4⟩
    | dat _ => unfold nwOf at h; cases h
    | new _ => unfold nwOf at h; cases h
theorem nw_has {P : Addr → D → Prop} : ∀ {rs : List R} {args : List (Bool × D)} {vs : List V} {outs : List D}, LentOk P args vs outs → (∀ (i : Nat) (d : D), args[i]? = some (true, d) → ∃ j, rs[i]? = some (.at j)) → ∀ (i j : Nat) (d : D), rs[i]? = some (.at j) → args[i]? = some (true, d) → ∃ d', nwOf rs args outs j = some d'
  | [], _, _, _, _, _, i, j, d, h, _ => by simp at h
  | r :: rs, _, _, _, .nil, _, i, j, d, _, h => by simp at h
  | r :: rs, _, _, _, .dat l, ha, i, j, d, h1, h2 => by
    cases i with
    | zero => simp at h2
    | succ i =>
      obtain ⟨d', e⟩ := nw_has (rs := rs) l (fun i d z => by simpa using ha (i + 1) d (by simpa using z)) i j d (by simpa using h1) (by simpa using h2)
      exact ⟨d', by cases r <;> exact e⟩
  | r :: rs, _, _, _, .lent (d := d0) (d' := d1) hp l, ha, i, j, d, h1, h2 => by
    obtain ⟨k, hk⟩ := ha 0 d0 rfl
    have hk : some r = some (.at k) := hk
    cases hk
    unfold nwOf
    by_cases e : j = k
    · exact ⟨d1, if_pos e⟩
    · rw [if_neg e]
      cases i with
      | zero => simp at h1; exact absurd h1.symm e
      | succ i => exact nw_has (rs := rs) l (fun i d z => by simpa using ha (i + 1) d (by simpa using z)) i j d (by simpa using h1) (by simpa using h2)
section
variable {X : Cx} {G : Gh} {W : L2.WX} {a e o : Expr} {es : List Expr} {pos apos : Pos} {fa f fo : M R} {fr : M (List R)}
theorem Rel.prepA {α : Type} {m : Bool} {r : R} {v : V} {k : R → M α} {ds : DS} {ts : List (R × V)} {σ : L2.St} {H : Hp} {P : α → DS → Prop} {E : String → DS → Prop} (h : Rel G ds ((r, v) :: ts) σ H) (p : Post ((do let d ← Den.prepA m r; k d) ds) P E) :
    ∃ r' ds', newAddr (r', v) = none ∧ Rel G ds' ((r', v) :: ts) σ H ∧ Post (k r' ds') P E := by
  have viaF : ∀ {r : R}, Rel G ds ((r, v) :: ts) σ H → Post ((do let d ← frz r; k (.dat d)) ds) P E → ∃ r' ds', newAddr (r', v) = none ∧ Rel G ds' ((r', v) :: ts) σ H ∧ Post (k r' ds') P E := fun {r} h p => by
    obtain ⟨d, ds', h', p'⟩ := Rel.frz1 h p
    exact ⟨.dat d, ds', rfl, h', p'⟩
  have conv : ∀ {r : R}, Post ((do let d ← (do let d ← frz r; pure (R.dat d) : M R); k d) ds) P E → Post ((do let d ← frz r; k (.dat d)) ds) P E := fun {r} p => by
    refine Post.bind.mpr ((Post.bind.mp (Post.bind.mp p)).mono (fun _ _ z => z) fun _ _ z => z)
  cases m with
  | false => exact viaF h (conv (by unfold Den.prepA at p; exact p))
  | true =>
    cases r with
    | «at» i => exact ⟨.at i, ds, rfl, h, p⟩
    | dat d => exact viaF h (conv p)
    | new d => exact viaF h (conv p)
theorem Rel.prep : ∀ {rs : List R} {ms : List Bool} {vs : List V} {α : Type} {k : List R → M α} {ds : DS} {ts : List (R × V)} {σ : L2.St} {H : Hp} {P : α → DS → Prop} {E : String → DS → Prop}, vs.length = rs.length → Rel G ds (rs.zip vs ++ ts) σ H → Post ((do let d ← Den.prep ms rs; k d) ds) P E →
    ∃ qs ds', Rel G ds' (qs.zip vs ++ ts) σ H ∧ (∀ q ∈ qs.zip vs, newAddr q = none) ∧ qs.length = rs.length ∧ Post (k qs ds') P E
  | [], ms, [], _, k, ds, ts, σ, H, P, E, _, h, p => ⟨[], ds, h, (fun _ z => by cases z), rfl, by cases ms <;> exact p⟩
  | r :: rs, ms, v :: vs, _, k, ds, ts, σ, H, P, E, hl, h, p => by
    have p : Post ((do let d ← Den.prepA (ms.headD false) r; (do let es ← Den.prep ms.tail rs; k (d :: es))) ds) P E := by
      have p1 := Post.bind.mp p
      unfold Den.prep at p1
      have p2 := Post.bind.mp p1
      refine Post.bind.mpr (p2.mono (fun d s q => ?_) fun _ _ z => z)
      exact Post.bind.mpr ((Post.bind.mp q).mono (fun _ _ z => z) fun _ _ z => z)
    obtain ⟨q, ds1, nn, h1, p1⟩ := Rel.prepA (ts := rs.zip vs ++ ts) h p
    have h1' : Rel G ds1 (rs.zip vs ++ ((q, v) :: ts)) σ H := h1.perm List.perm_middle
    obtain ⟨qs, ds2, h2, n2, hl2, p2⟩ := Rel.prep (ms := ms.tail) (by simpa using hl) h1' p1
    refine ⟨q :: qs, ds2, h2.perm List.perm_middle.symm, fun z hz => ?_, by simp [hl2], p2⟩
    rcases List.mem_cons.mp hz with rfl | hz
    · exact nn
    · exact n2 z hz
  | [], _, _ :: _, _, _, _, _, _, _, _, _, hl, _, _ => by simp at hl
  | _ :: _, _, [], _, _, _, _, _, _, _, _, hl, _, _ => by simp at hl
open Classical in
/-- the callee's view -/
noncomputable def calleeG (G : Gh) (H Hd : Hp) (args : List (Bool × D)) (vs : List V) : Gh :=
  { K := G.K, V := Hd, B := lentAt args vs, T := G.T, cls := G.cls, F := fun a => if Hd a ≠ none ∨ (∃ i : Nat, lentAt args vs i = some a) ∨ a ∈ G.T.map (·.1) then none else H a }
theorem call_ok {n : Nat} {f : FD} {ms : List Bool} {rs : List R} {vs : List V} {ds : DS} {ts : List (R × V)} {σ : L2.St} {H : Hp} {Q : VK} (hl : vs.length = rs.length) (hn : rs.length = n) (h : Rel G ds (rs.zip vs ++ ts) σ H) (p : pD G W (callD f ms rs ds) ts σ Q) :
    spD G.K G.T G.cls n f vs H Q (WE W σ) := by
  obtain ⟨qs, ds1, ⟨Hd, h1⟩, nn, hq, p1⟩ := Rel.prep (ms := ms) (k := fun qs => fun ds => match argsOf ds qs with
    | none => none
    | some args => if (lentSlots qs args).Nodup then
        match f args with
        | none => none
        | some (.ok r outs) => some (.ok (resR r) (updF (nwOf qs args outs) 0 ds))
        | some (.err c outs) => some (.err c (updF (nwOf qs args outs) 0 ds))
      else none) hl h p
  cases ha : argsOf ds1 qs with
  | none => simp only [ha] at p1; exact p1.elim
  | some args =>
    simp only [ha] at p1
    split at p1
    · rename_i nd
      obtain ⟨la, ga⟩ := argsOf_get ha
      have hlen : vs.length = args.length := by rw [hl, ← hq, la]
      have zipAt : ∀ {i : Nat} {r : R} {v : V}, qs[i]? = some r → vs[i]? = some v → (r, v) ∈ qs.zip vs := fun {i r v} e1 e2 => by
        refine List.mem_of_getElem? (i := i) ?_
        rw [List.getElem?_zip_eq_some]
        exact ⟨e1, e2⟩
      have vAt : ∀ {i : Nat} {a : Bool × D}, args[i]? = some a → ∃ v, vs[i]? = some v := fun {i a} e => ⟨_, List.getElem?_eq_getElem (by rw [hlen]; exact (List.getElem?_eq_some_iff.mp e).1)⟩
      -- a lent argument
      have lentS : ∀ {i : Nat} {d : D}, args[i]? = some (true, d) → ∃ (j : Nat) (p : Addr), qs[i]? = some (R.at j) ∧ vs[i]? = some (.ref p) ∧ OwnsS ds1 σ j p ∧ Own G H Hd p d := fun {i d} e => by
        obtain ⟨r, e1, e2⟩ := ga i _ e
        obtain ⟨v, e3⟩ := vAt e
        have tm := h1.tmp _ (List.mem_append_left _ (zipAt e1 e3))
        unfold argOf at e2
        cases r with
        | dat _ => cases e2
        | new _ => cases e2
        | «at» j =>
          obtain ⟨w1, sv, w2⟩ := tm
          simp only [w2] at e2
          obtain ⟨v', w3, w4⟩ := h1.slo j sv w2
          rw [w1] at w3; cases w3
          cases sv with
          | dat _ => cases e2
          | own d' => cases e2; obtain ⟨p, rfl, w5⟩ := w4; exact ⟨j, p, e1, e3, ⟨⟨_, w2, rfl⟩, w1⟩, w5⟩
          | lent d' => cases e2; obtain ⟨p, rfl, w5⟩ := w4; exact ⟨j, p, e1, e3, ⟨⟨_, w2, rfl⟩, w1⟩, w5⟩
      have lentA : ∀ {i : Nat} {p : Addr}, lentAt args vs i = some p → ∃ d, args[i]? = some (true, d) ∧ vs[i]? = some (.ref p) := fun {i p} e => by
        unfold lentAt at e
        split at e
        · rename_i d q ha hv; cases e; exact ⟨d, ha, hv⟩
        · cases e
      have lentO : ∀ {p : Addr}, (∃ i : Nat, lentAt args vs i = some p) → ∃ j : Nat, OwnsS ds1 σ j p ∧ ∃ (i : Nat) (d : D), qs[i]? = some (R.at j) ∧ args[i]? = some (true, d) := fun {p} ⟨i, e⟩ => by
        obtain ⟨d, e1, e2⟩ := lentA e
        obtain ⟨j, p', w1, w2, w3, _⟩ := lentS e1
        rw [e2] at w2; cases w2
        exact ⟨j, w3, i, d, w1, e1⟩
      have hF : ∀ a o, (calleeG G H Hd args vs).F a = some o → H a = some o ∧ Hd a = none := fun a o e => by
        simp only [calleeG] at e
        split at e
        · cases e
        · rename_i hn
          refine ⟨e, ?_⟩
          cases q : Hd a with
          | none => rfl
          | some u => exact absurd (.inl (by rw [q]; simp)) hn
      have Fsome : ∀ a o, H a = some o → Hd a = none → (¬ ∃ i : Nat, lentAt args vs i = some a) → a ∉ G.T.map (·.1) → (calleeG G H Hd args vs).F a = some o := fun a o e1 e2 e3 e4 => by
        simp only [calleeG]
        rw [if_neg (fun z => by
          rcases z with z | z | z
          · exact z e2
          · exact e3 z
          · exact e4 z)]
        exact e1
      have aok : ArgsOk (calleeG G H Hd args vs) H args vs := by
        refine ⟨hlen, fun i d e => ?_, fun i d e => ?_, fun i j p e1 e2 => ?_, rfl, hF, h1.sub, fun P hP => ⟨(h1.tab P hP).1, (h1.tab P hP).2.1, ?_⟩⟩
        · obtain ⟨r, e1, e2⟩ := ga i _ e
          obtain ⟨v, e3⟩ := vAt e
          refine ⟨v, e3, ?_⟩
          have tm := h1.tmp _ (List.mem_append_left _ (zipAt e1 e3))
          unfold argOf at e2
          cases r with
          | dat _ => cases e2; exact tm
          | new _ => cases e2
          | «at» j =>
            obtain ⟨w1, sv, w2⟩ := tm
            simp only [w2] at e2
            obtain ⟨v', w3, w4⟩ := h1.slo j sv w2
            rw [w1] at w3; cases w3
            cases sv with
            | dat _ => cases e2; exact w4
            | own _ => cases e2
            | lent _ => cases e2
        · obtain ⟨j, p, _, w2, _, w4⟩ := lentS e
          refine ⟨p, w2, w4.1, w4.2.1, ?_⟩
          simp only [calleeG]
          rw [if_pos (.inr (.inl ⟨i, by unfold lentAt; rw [e, w2]⟩))]
        · obtain ⟨d1, a1, v1⟩ := lentA e1
          obtain ⟨d2, a2, v2⟩ := lentA e2
          obtain ⟨s1, p1, w1, w2, w3, _⟩ := lentS a1
          obtain ⟨s2, p2, x1, x2, x3, _⟩ := lentS a2
          rw [v1] at w2; cases w2
          rw [v2] at x2; cases x2
          have := h1.dSS _ _ _ w3 x3
          subst this
          exact lentSlots_get la nd i j s1 d1 d2 w1 a1 x1 a2
        · simp only [calleeG]
          rw [if_pos (.inr (.inr (List.mem_map.mpr ⟨P, hP, rfl⟩)))]
      -- behind the call
      have back : ∀ (outs : List D) (H' Hd' : Hp), Left (calleeG G H Hd args vs) args vs outs H' Hd' → Rel0 G Hd' (updF (nwOf qs args outs) 0 ds1) ts σ H' ∧ (∀ (rr : RR) (v : V), ResOk (calleeG G H Hd args vs) H' Hd' rr v → Rel0 G Hd' (updF (nwOf qs args outs) 0 ds1) ((resR rr, v) :: ts) σ H') := fun outs H' Hd' L => by
        have sv1 : Same Hd Hd' := L.vis
        have hasAt : ∀ (i : Nat) (d : D), args[i]? = some (true, d) → ∃ j : Nat, qs[i]? = some (R.at j) := fun i d e => let ⟨j, _, w, _⟩ := lentS e; ⟨j, w⟩
        have keep : ∀ a, (∃ o, H a = some o) → Hd a = none → (¬ ∃ i : Nat, lentAt args vs i = some a) → a ∉ G.T.map (·.1) → H' a = H a ∧ Hd' a = none := fun a ⟨o, e1⟩ e2 e3 e4 => by
          obtain ⟨w1, w2⟩ := L.fr a o (Fsome a o e1 e2 e3 e4)
          exact ⟨by rw [w1, e1], w2⟩
        have notT : ∀ {p : Addr} {d : D}, Own G H Hd p d → p ∉ G.T.map (·.1) := fun {p d} o z => by
          obtain ⟨u, e, hu⟩ := o.1.some
          obtain ⟨P, hP, eP⟩ := List.mem_map.mp z
          exact h1.notTab e hu hP eP
        have at_ : ∀ (j : Nat) (s : SV), (updF (nwOf qs args outs) 0 ds1)[j]? = some (some s) → ∃ s0, ds1[j]? = some (some s0) ∧ ((nwOf qs args outs j = none ∧ s = s0) ∨ ∃ d', nwOf qs args outs j = some d' ∧ s = setS d' s0) := fun j s e => by
          rw [updF_get, Nat.zero_add] at e
          cases e0 : ds1[j]? with
          | none => rw [e0] at e; cases e
          | some o =>
            rw [e0] at e
            cases hw : nwOf qs args outs j with
            | none =>
              rw [hw] at e
              have e : some o = some (some s) := e
              cases e
              exact ⟨s, rfl, .inl ⟨rfl, rfl⟩⟩
            | some d' =>
              rw [hw] at e
              cases o with
              | none => cases e
              | some s0 => cases e; exact ⟨s0, rfl, .inr ⟨d', rfl, rfl⟩⟩
        have ownSet : ∀ (d : D) (s : SV), isOwn (setS d s) = isOwn s := fun d s => by cases s <;> rfl
        have os : ∀ (j : Nat) (q : Addr), OwnsS (updF (nwOf qs args outs) 0 ds1) σ j q → OwnsS ds1 σ j q := fun j q ⟨⟨s, e1, e2⟩, e3⟩ => by
          obtain ⟨s0, w1, w2⟩ := at_ j s e1
          refine ⟨⟨s0, w1, ?_⟩, e3⟩
          rcases w2 with ⟨_, rfl⟩ | ⟨d', _, rfl⟩
          · exact e2
          · rw [ownSet] at e2; exact e2
        -- a slot's object that was not lent
        have quiet : ∀ {j : Nat} {q : Addr} {d : D}, OwnsS ds1 σ j q → Own G H Hd q d → nwOf qs args outs j = none → Own G H' Hd' q d := fun {j q d} o w hw => by
          obtain ⟨u, e, _⟩ := w.1.some
          obtain ⟨k1, k2⟩ := keep q ⟨u, e⟩ w.2.1 (fun z => by
            obtain ⟨j', o', i, d2, x1, x2⟩ := lentO z
            have := h1.dSS _ _ _ o o'
            subst this
            obtain ⟨d', hd'⟩ := nw_has L.lent hasAt i j d2 x1 x2
            rw [hw] at hd'; cases hd') (notT w)
          exact w.move k1 sv1 k2
        have noLentT : ∀ {p : Addr}, p ∈ ownT ts → ¬ ∃ i : Nat, lentAt args vs i = some p := fun {p} hp z => by
          obtain ⟨j, o, _⟩ := lentO z
          refine h1.dST j p o ?_
          unfold ownT at hp ⊢
          rw [List.filterMap_append]
          exact List.mem_append_right _ hp
        have hts := h1.sub' (ts' := ts) (List.sublist_append_right _ _)
        have base : Rel0 G Hd' (updF (nwOf qs args outs) 0 ds1) ts σ H' := by
          refine ⟨fun a o e => ?_, h1.vis.trans sv1, L.sub, by rw [updF_length]; exact h1.sll, fun j s e => ?_, fun j q b => ?_, fun q hq => ?_, fun j k q x y => h1.dSS j k q (os j q x) (os k q y), fun j q x => hts.dST j q (os j q x), hts.dTT, fun P hP => ⟨(L.tab P hP).1, (L.tab P hP).2, (h1.tab P hP).2.2⟩⟩
          · obtain ⟨e1, e2⟩ := h1.fr a o e
            have := keep a ⟨o, e1⟩ e2 (fun ⟨i, z⟩ => by
              obtain ⟨d, a1, v1⟩ := lentA z
              obtain ⟨_, p', _, w2, _, w4⟩ := lentS a1
              rw [v1] at w2; cases w2
              rw [w4.2.2] at e; cases e) (fun z => by
              obtain ⟨P, hP, eP⟩ := List.mem_map.mp z
              rw [← eP, (h1.tab P hP).2.2] at e; cases e)
            exact ⟨by rw [this.1, e1], this.2⟩
          · obtain ⟨s0, w1, w2⟩ := at_ j s e
            obtain ⟨v, e1, e2⟩ := h1.slo j s0 w1
            refine ⟨v, e1, ?_⟩
            rcases w2 with ⟨hw, rfl⟩ | ⟨d', hw, rfl⟩
            · cases s with
              | dat d => exact Rep.mono sv1 e2
              | own d => obtain ⟨p, rfl, z⟩ := e2; exact ⟨p, rfl, quiet ⟨⟨_, w1, rfl⟩, e1⟩ z hw⟩
              | lent d => obtain ⟨p, rfl, z⟩ := e2; exact ⟨p, rfl, quiet ⟨⟨_, w1, rfl⟩, e1⟩ z hw⟩
            · obtain ⟨i, p, d, x1, x2, x3, x4⟩ := nw_some L.lent j d' hw
              obtain ⟨j', p', y1, y2, y3, y4⟩ := lentS x2
              rw [x1] at y1; cases y1
              rw [x3] at y2; cases y2
              have e3 : v = .ref p := by have := y3.2; rw [e1] at this; cases this; rfl
              have nw : Own G H' Hd' p d' := ⟨x4.1, x4.2.1, y4.2.2⟩
              obtain ⟨sv, z1, z2⟩ := y3.1
              rw [w1] at z1; cases z1
              cases s0 with
              | dat _ => cases z2
              | own _ => exact ⟨p, e3, nw⟩
              | lent _ => exact ⟨p, e3, nw⟩
          · obtain ⟨⟨d, w1⟩, w2⟩ := h1.bor j q b
            refine ⟨?_, w2⟩
            rw [updF_get, Nat.zero_add, w1]
            cases nwOf qs args outs j with
            | none => exact ⟨d, rfl⟩
            | some d' => exact ⟨d', rfl⟩
          · have z := hts.tmp q hq
            obtain ⟨r, v⟩ := q
            cases r with
            | dat d => exact Rep.mono sv1 z
            | new d =>
              obtain ⟨p, e, z⟩ := z
              have e : v = .ref p := e
              subst e
              obtain ⟨u, eu, _⟩ := z.1.some
              obtain ⟨k1, k2⟩ := keep p ⟨u, eu⟩ z.2.1 (noLentT (mem_ownT hq)) (notT z)
              exact ⟨p, rfl, z.move k1 sv1 k2⟩
            | «at» j =>
              obtain ⟨w1, s, w2⟩ := z
              refine ⟨w1, ?_⟩
              rw [updF_get, Nat.zero_add, w2]
              cases nwOf qs args outs j with
              | none => exact ⟨s, rfl⟩
              | some d' => exact ⟨setS d' s, rfl⟩
        refine ⟨base, fun rr v hr => ?_⟩
        cases rr with
        | dat d => exact base.pushD hr
        | own d =>
          obtain ⟨p, rfl, ⟨z1, z2, z3⟩, z4⟩ := hr
          have nF : ∀ o, H p = some o → Hd p = none → p ∉ G.T.map (·.1) → False := fun o e1 e2 e3 => by
            have := Fsome p o e1 e2 (fun ⟨i, z⟩ => z4 i z) e3
            rw [z3] at this; cases this
          have hS : ∀ j, ¬ OwnsS (updF (nwOf qs args outs) 0 ds1) σ j p := fun j w => by
            obtain ⟨s, _, _, y⟩ := h1.ownsAt (os j p w)
            obtain ⟨u, e, _⟩ := y.1.some
            exact nF u e y.2.1 (notT y)
          have hT : p ∉ ownT ts := fun w => by
            obtain ⟨d', hd'⟩ := of_ownT w
            obtain ⟨q, e, y⟩ := hts.tmp _ hd'
            cases e
            obtain ⟨u, e, _⟩ := y.1.some
            exact nF u e y.2.1 (notT y)
          have nG : G.F p = none := by
            cases e : G.F p with
            | none => rfl
            | some o =>
              obtain ⟨e1, e2⟩ := h1.fr p o e
              exact (nF o e1 e2 fun z => by
                obtain ⟨P, hP, eP⟩ := List.mem_map.mp z
                rw [← eP, (h1.tab P hP).2.2] at e; cases e).elim
          have e : ownT ((resR (.own d), V.ref p) :: ts) = p :: ownT ts := rfl
          exact { base with
            tmp := fun q hq => (List.mem_cons.mp hq).elim (fun z => by rw [z]; exact ⟨p, rfl, z1, z2, nG⟩) (base.tmp q)
            dST := fun i q w m => by
              rw [e] at m
              rcases List.mem_cons.mp m with z | z
              · exact hS i (z ▸ w)
              · exact base.dST i q w z
            dTT := by rw [e]; exact List.nodup_cons.mpr ⟨hT, base.dTT⟩ }
      refine ⟨by rw [hl, hn], calleeG G H Hd args vs, args, rfl, rfl, rfl, aok, ?_⟩
      cases hf : f args with
      | none => rw [hf] at p1; exact p1.elim
      | some res =>
        rw [hf] at p1
        cases res with
        | ok rr outs => exact fun v H' Hd' L ro => p1 v H' ⟨Hd', (back outs H' Hd' L).2 rr v ro⟩
        | err c outs =>
          obtain ⟨cv, e1, e2⟩ := p1
          exact ⟨cv, e1, fun H' Hd' L => e2 H' ⟨Hd', (back outs H' Hd' L).1⟩⟩
    · exact p1.elim
theorem de_call {x : Str} {p : Pos} {k : Nat} {fA : Addr} {fd : FuncData} {ps : List Str} {fD : FD} (ms : List Bool) (F : FnOk X.prog X.w X.K X.mg X.base (CX X.prog X.w) k fA fd ps (spD G.K G.T G.cls (es.length + 1) fD)) (hr : Room k X.A) (hg : Gl X x) (hm : X.mg x = some (.ref fA)) (hk : PySem.W.keepIn X.K (.ref fA) = true)
    (hb : Binds X.K fd ps []) (tk : Takes X W) (ha : PA X (e :: es) (tA G W fr)) (hlen : ∀ {ds : DS} {rs : List R} {s : DS}, fr ds = some (.ok rs s) → rs.length = es.length + 1) (hdb : (x == ("__debug__" : Str)) = false := by decide) (he : starEach (e :: es) X.env = (false, eval e X.env) :: starEach es X.env := by rfl)
    (hpl : (backTo pos (starEach es X.env)).any (·.1) = false := by rfl) : PE X (.Call (.Name x p) (e :: es) [] pos) (tD G W (do let rs ← fr; callD fD ms rs)) :=
  pe_imp (pe_callS F hr hg hm hk hb (fun σ => passAt tk σ) ha hdb he hpl) fun σ H Q q => by
    obtain ⟨ds, ts, h, p⟩ := q
    have p := Post.bind.mp p
    refine ⟨ds, ts, h, ?_⟩
    cases hf : fr ds with
    | none => rw [hf] at p; exact p.elim
    | some res =>
      cases res with
      | err c s => rw [hf] at p; exact p
      | ok rs ds1 =>
        rw [hf] at p
        exact fun vs H1 hl h1 => call_ok hl (hlen hf) h1 p
end
end Den
/-! DenL: more built-ins -/
namespace Den
open PySem PySem.Spec PyProof.Rows L2
section
variable {X : Cx} {G : Gh} {W : L2.WX} {a e o : Expr} {es : List Expr} {pos apos : Pos} {fa f fo : M R} {fr : M (List R)}
theorem Rel.one {vs : List V} {rs : List R} {ds : DS} {ts : List (R × V)} {σ : L2.St} {H : Hp} {r : R} {v : V} (h : Rel G ds (List.zip [r] [v] ++ ts) σ H) : Rel G ds ((r, v) :: ts) σ H := h
/-- list(..) of a list, a tuple -/
def gList (rs : List R) : M R := do
  let r ← one rs
  let d ← dat r
  match seqOf d with
  | some es => newL es
  | none => fail
theorem do_list : DoesN G W (fun xs H Q => ∃ p ys, xs = [V.ref p] ∧ (SqL G.K H p ys ∨ SqT G.K H p ys) ∧ ∀ (l : Addr), H l = none → Q (V.ref l) (upd H l (HO.lst ys))) gList := by
  intro vs H Q σ ds ts rs hl h p
  obtain ⟨r, v, rfl, rfl, p⟩ := one_of hl p
  obtain ⟨d, hd, p⟩ := Post.dat (r := r) p
  obtain ⟨Hd, h'⟩ := id h
  have hv := h'.tmp (r, v) List.mem_cons_self
  cases hs : seqOf d with
  | none => simp only [hs] at p; exact p.elim
  | some es =>
    simp only [hs] at p
    obtain ⟨a, xs, e1, e2, e3⟩ := h'.seq hv hd hs
    have e1 : v = .ref a := e1
    exact ⟨a, xs, by rw [e1], e2, fun l nl => p _ _ (Rel.newL ⟨Hd, h'.pop, e3⟩ nl)⟩
/-- tuple(..) of a list, a tuple -/
def gTuple (rs : List R) : M R := do
  let r ← one rs
  let d ← dat r
  match d with
  | .list es => pure (.dat (.tuple es))
  | .tuple es => pure (.dat (.tuple es))
  | _ => fail
theorem do_tuple : DoesN G W (fun xs H Q => ∃ p ys, xs = [V.ref p] ∧ ((SqL G.K H p ys ∧ ∀ (l : Addr), H l = none → Q (V.ref l) (upd H l (HO.tup ys))) ∨ SqT G.K H p ys ∧ Q (V.ref p) H)) gTuple := by
  intro vs H Q σ ds ts rs hl h p
  obtain ⟨r, v, rfl, rfl, p⟩ := one_of hl p
  obtain ⟨d, hd, p⟩ := Post.dat (r := r) p
  obtain ⟨Hd, h'⟩ := id h
  have hv := h'.tmp (r, v) List.mem_cons_self
  cases d with
  | list es =>
    obtain ⟨a, xs, e1, e2, e3⟩ := h'.list hv hd
    have e1 : v = .ref a := e1
    exact ⟨a, xs, by rw [e1], .inl ⟨SqL.of e2, fun l nl => p _ _ (Rel.newT ⟨Hd, h'.pop, e3⟩ nl)⟩⟩
  | tuple es =>
    obtain ⟨a, xs, e1, e2, e3⟩ := h'.tuple hv hd
    have e1 : v = .ref a := e1
    refine ⟨a, xs, by rw [e1], .inr ⟨e2, p _ _ ⟨Hd, h'.pop.pushD ?_⟩⟩⟩
    have := h'.tupRep hv hd
    rw [show v = .ref a from e1] at this
    exact this
  | _ => exact p.elim
/-- lists of whole numbers -/
def intsOf : List D → Option (List Int)
  | [] => some []
  | .int i :: r => (intsOf r).map (i :: ·)
  | _ => none
theorem intsOf_rep {K : PySem.W.Frag} {H : Hp} : ∀ {xs : List V} {es : List D} {ns : List Int}, RepAll K H xs es → intsOf es = some ns → xs = ns.map V.int ∧ es = ns.map PyData.int
  | _, _, ns, .nil, h => by cases h; exact ⟨rfl, rfl⟩
  | x :: xs, e :: es, ns, .cons hx r, h => by
    cases e with
    | int i =>
      unfold intsOf at h
      cases hr : intsOf es with
      | none => rw [hr] at h; cases h
      | some q =>
        rw [hr] at h
        cases h
        obtain ⟨e1, e2⟩ := intsOf_rep r hr
        exact ⟨by rw [List.map_cons, rep_int hx, e1], by rw [List.map_cons, e2]⟩
    | _ => cases h
theorem intsOf_map (ns : List Int) : intsOf (ns.map PyData.int) = some ns := by
  induction ns with
  | nil => rfl
  | cons n r ih => simp [intsOf, ih]
def gSum (rs : List R) : M R := do
  let r ← one rs
  let d ← dat r
  match d with
  | .list es => match intsOf es with
    | some ns => retI ns.sum
    | none => fail
  | _ => fail
theorem do_sum : DoesN G W (rSum G.K) gSum := by
  intro vs H Q σ ds ts rs hl h p
  obtain ⟨r, v, rfl, rfl, p⟩ := one_of hl p
  obtain ⟨d, hd, p⟩ := Post.dat (r := r) p
  obtain ⟨Hd, h'⟩ := id h
  have hv := h'.tmp (r, v) List.mem_cons_self
  cases d with
  | list es =>
    simp only at p
    cases hi : intsOf es with
    | none => simp only [hi] at p; exact p.elim
    | some ns =>
      simp only [hi] at p
      obtain ⟨a, xs, e1, e2, e3⟩ := h'.list hv hd
      have e1 : v = .ref a := e1
      obtain ⟨e4, _⟩ := intsOf_rep e3 hi
      exact ⟨a, ns, by rw [e1], SqL.of (e4 ▸ e2), p _ _ (Rel.flat h.pop (flat_int _))⟩
  | _ => exact p.elim
/-- the greatest, the least of some whole numbers -/
def maxL : List Int → Int
  | [] => 0
  | [x] => x
  | x :: r => if maxL r > x then maxL r else x
def minL : List Int → Int
  | [] => 0
  | [x] => x
  | x :: r => if minL r < x then minL r else x
theorem maxL_spec : ∀ {ns : List Int}, ns ≠ [] → maxL ns ∈ ns ∧ ∀ y ∈ ns, y ≤ maxL ns
  | [], h => absurd rfl h
  | [x], _ => ⟨by simp [maxL], by simp [maxL]⟩
  | x :: y :: r, _ => by
    obtain ⟨h1, h2⟩ := maxL_spec (ns := y :: r) (by simp)
    unfold maxL
    by_cases h : maxL (y :: r) > x
    · rw [if_pos h]
      exact ⟨List.mem_cons_of_mem _ h1, fun z hz => (List.mem_cons.mp hz).elim (fun e => by omega) (h2 z)⟩
    · rw [if_neg h]
      exact ⟨List.mem_cons_self, fun z hz => (List.mem_cons.mp hz).elim (fun e => by omega) fun hz => by have := h2 z hz; omega⟩
theorem minL_spec : ∀ {ns : List Int}, ns ≠ [] → minL ns ∈ ns ∧ ∀ y ∈ ns, minL ns ≤ y
  | [], h => absurd rfl h
  | [x], _ => ⟨by simp [minL], by simp [minL]⟩
  | x :: y :: r, _ => by
    obtain ⟨h1, h2⟩ := minL_spec (ns := y :: r) (by simp)
    unfold minL
    by_cases h : minL (y :: r) < x
    · rw [if_pos h]
      exact ⟨List.mem_cons_of_mem _ h1, fun z hz => (List.mem_cons.mp hz).elim (fun e => by omega) (h2 z)⟩
    · rw [if_neg h]
      exact ⟨List.mem_cons_self, fun z hz => (List.mem_cons.mp hz).elim (fun e => by omega) fun hz => by have := h2 z hz; omega⟩
theorem maxL_uniq {ns : List Int} {m : Int} (h1 : m ∈ ns) (h2 : ∀ y ∈ ns, y ≤ m) : m = maxL ns := by
  obtain ⟨a, b⟩ := maxL_spec (ns := ns) (by rintro rfl; cases h1)
  have := h2 _ a; have := b _ h1; omega
theorem minL_uniq {ns : List Int} {m : Int} (h1 : m ∈ ns) (h2 : ∀ y ∈ ns, m ≤ y) : m = minL ns := by
  obtain ⟨a, b⟩ := minL_spec (ns := ns) (by rintro rfl; cases h1)
  have := h2 _ a; have := b _ h1; omega
def gMax (rs : List R) : M R := match rs with
  | [x, y] => do let i ← asInt x; let j ← asInt y; retI (if j > i then j else i)
  | [r] => do
    let d ← dat r
    match d with
    | .list es => match intsOf es with
      | some ns => do need (!ns.isEmpty); retI (maxL ns)
      | none => fail
    | _ => fail
  | _ => fail
def gMin (rs : List R) : M R := match rs with
  | [x, y] => do let i ← asInt x; let j ← asInt y; retI (if j < i then j else i)
  | [r] => do
    let d ← dat r
    match d with
    | .list es => match intsOf es with
      | some ns => do need (!ns.isEmpty); retI (minL ns)
      | none => fail
    | _ => fail
  | _ => fail
theorem do_max : DoesN G W (fun xs H Q => (∃ i j, xs = [.int i, .int j] ∧ Q (.int (if j > i then j else i)) H) ∨ rMax G.K xs H Q) gMax := by
  intro vs H Q σ ds ts rs hl h p
  match rs, vs, hl with
  | [x, y], [v, w], _ =>
    obtain ⟨i, rfl, p⟩ := Post.asInt (r := x) p
    obtain ⟨j, rfl, p⟩ := Post.asInt (r := y) p
    obtain ⟨Hd, h'⟩ := id h
    have ev : v = .int i := rep_int (h'.tmp (.dat (.int i), v) List.mem_cons_self)
    have ew : w = .int j := rep_int (h'.tmp (.dat (.int j), w) (List.mem_cons_of_mem _ List.mem_cons_self))
    exact .inl ⟨i, j, by rw [ev, ew], p _ _ (Rel.flat h.pop.pop (flat_int _))⟩
  | [r], [v], _ =>
    obtain ⟨d, hd, p⟩ := Post.dat (r := r) p
    obtain ⟨Hd, h'⟩ := id h
    have hv := h'.tmp (r, v) List.mem_cons_self
    cases d with
    | list es =>
      simp only at p
      cases hi : intsOf es with
      | none => simp only [hi] at p; exact p.elim
      | some ns =>
        simp only [hi] at p
        obtain ⟨c, p⟩ := Post.need (b := !ns.isEmpty) p
        obtain ⟨a, xs, e1, e2, e3⟩ := h'.list hv hd
        have e1 : v = .ref a := e1
        obtain ⟨e4, _⟩ := intsOf_rep e3 hi
        refine .inr ⟨a, ns, by rw [e1], SqL.of (e4 ▸ e2), by cases ns <;> simp at c ⊢, fun m h1 h2 => ?_⟩
        rw [maxL_uniq h1 h2]
        exact p _ _ (Rel.flat h.pop (flat_int _))
    | _ => exact p.elim
  | [], _, _ => exact p.elim
  | _ :: _ :: _ :: _, _, _ => exact p.elim
theorem do_min : DoesN G W (fun xs H Q => (∃ i j, xs = [.int i, .int j] ∧ Q (.int (if j < i then j else i)) H) ∨ rMin G.K xs H Q) gMin := by
  intro vs H Q σ ds ts rs hl h p
  match rs, vs, hl with
  | [x, y], [v, w], _ =>
    obtain ⟨i, rfl, p⟩ := Post.asInt (r := x) p
    obtain ⟨j, rfl, p⟩ := Post.asInt (r := y) p
    obtain ⟨Hd, h'⟩ := id h
    have ev : v = .int i := rep_int (h'.tmp (.dat (.int i), v) List.mem_cons_self)
    have ew : w = .int j := rep_int (h'.tmp (.dat (.int j), w) (List.mem_cons_of_mem _ List.mem_cons_self))
    exact .inl ⟨i, j, by rw [ev, ew], p _ _ (Rel.flat h.pop.pop (flat_int _))⟩
  | [r], [v], _ =>
    obtain ⟨d, hd, p⟩ := Post.dat (r := r) p
    obtain ⟨Hd, h'⟩ := id h
    have hv := h'.tmp (r, v) List.mem_cons_self
    cases d with
    | list es =>
      simp only at p
      cases hi : intsOf es with
      | none => simp only [hi] at p; exact p.elim
      | some ns =>
        simp only [hi] at p
        obtain ⟨c, p⟩ := Post.need (b := !ns.isEmpty) p
        obtain ⟨a, xs, e1, e2, e3⟩ := h'.list hv hd
        have e1 : v = .ref a := e1
        obtain ⟨e4, _⟩ := intsOf_rep e3 hi
        refine .inr ⟨a, ns, by rw [e1], SqL.of (e4 ▸ e2), by cases ns <;> simp at c ⊢, fun m h1 h2 => ?_⟩
        rw [minL_uniq h1 h2]
        exact p _ _ (Rel.flat h.pop (flat_int _))
    | _ => exact p.elim
  | [], _, _ => exact p.elim
  | _ :: _ :: _ :: _, _, _ => exact p.elim
/-- isinstance(x, T), T a built-in class -/
def tyD : D → String
  | .none => "NoneType"
  | .bool _ => "bool"
  | .int _ => "int"
  | .str _ => "str"
  | .list _ => "list"
  | .tuple _ => "tuple"
  | .dict [(.none, .list _)] => "list"
  | .dict _ => "dict"
def isT (T : String) (d : D) : Bool := tyD d == T || (T == "int" && tyD d == "bool")
end
end Den
/-! DenM: all, any of a generator expression, its element whatever one may write -/
namespace Den
open PySem PySem.Spec PyProof.Rows L2 GenW GxR

structure GenOk (N : List Str) (sc scope : Scope) (own : List (Str × Nat)) : Prop where
  blk : BlkOk N sc scope own
  co : scope.isCoroutine = false
  cell : ∀ y ∈ scope.names, y.2 ≠ .cell
  dot : scope.names.lookup (".0" : Str) = some NameKind.local
abbrev gxE (elt tg iter : Expr) (scope : Scope) (pos : Pos) : Expr := .GeneratorExp elt [⟨tg, iter, [], 0⟩] scope pos
abbrev gxC (elt tg iter : Expr) (scope : Scope) (pos : Pos) (it : Addr) (cenv : Env) : Code := .compLoop (gxE elt tg iter scope pos) 0 (.ref it) .none cenv
/-- the context of a generator expression's frame -/
abbrev gxX (X : Cx) (s : Shared) (H : Hp) (c : Code) (cenv : Env) (fp : List Addr) : Cx := { X with A := X.A.in1.in1.over c [], s_0 := s, H_0 := H, env := cenv, outer := X.stack, stack := cenv :: X.stack, ex := fp, fn := fun _ => false, pn := [], xe := fun _ _ => False }
theorem room_gx {k : Nat} {X : Cx} {s : Shared} {H : Hp} {elt tg iter : Expr} {scope : Scope} {pos : Pos} {it : Addr} {cenv : Env} {fp : List Addr} (r : Room (k + 1) X.A) : Room k (gxX X s H (gxC elt tg iter scope pos it cenv) cenv fp).A :=
  ⟨r.hd, by have := r.dp; show X.A.depth + 0 + 1 + 3 * k + 5 < _; omega, by have := r.un; show X.A.units + 1 + 1 + 0 + 3 + 16 * k + 200 < _; omega⟩

section
variable {X : Cx} {pins : List (Addr × Obj)} {σ : L2.St} {H : Hp} {s : Shared}
theorem gen_start {scope : Scope} {own : List (Str × Nat)} {fp : List Addr} {elt tg iter : Expr} {pos : Pos} {it : Addr} {code : Value} {cenv : Env} {h5 : Heap} {g5 : Array GenState} {t5 : Nat} {m : Str → Option Value}
    (I : Inv X pins σ H s) (ok : GenOk X.N X.env.scope scope own) (hN : X.N.Nodup) (hfp : ∀ b ∈ fp, FpOk X pins H b ∧ b < s.heap.objs.size)
    (hce : cenv = genEnv scope (cloFrom X.env.cells scope.names []) s.heap.objs.size code builtinsNs X.env)
    (kp : ∀ b o, s.heap.get? b = some o → h5.get? b = some o) (hns : h5.Ns s.heap.objs.size m) (hg : AllBare g5) :
    Inv (gxX X s H (gxC elt tg iter scope pos it cenv) cenv fp) [] (wipe σ (own.map (·.2))) H { s with heap := h5, gens := g5, toks := t5 } := by
  have hfree : ∀ y ∈ scope.names, y.2 = .free → ∃ c, X.env.cells.lookup y.1 = some c := fun y hy e => by
    rcases ok.blk.free y hy e with k | k
    · exact I.ok.has _ (.inl k)
    · exact I.ok.has _ (.inr k)
  have hL : cenv.locals = s.heap.objs.size := by rw [hce]; rfl
  have hcl : cenv.cells = cloFrom X.env.cells scope.names [] := by rw [hce]; rfl
  have hsc : cenv.scope = scope := by rw [hce]; rfl
  have cm : ∀ {y c}, (y, c) ∈ cloFrom X.env.cells scope.names [] → X.env.cells.lookup y = some c ∧ c < s.heap.objs.size := fun {y c} hm => by
    rcases cloFrom_mem hm with hm | ⟨h1, rfl⟩
    · cases hm
    · obtain ⟨c, hc⟩ := hfree _ h1 rfl
      rw [hc]
      obtain ⟨w, z⟩ := I.cell _ _ hc
      exact ⟨rfl, z.lt⟩
  have mem : ∀ {y c}, cenv.cells.lookup y = some c → X.env.cells.lookup y = some c ∧ c < s.heap.objs.size := fun {y c} e => by
    rw [hcl] at e
    exact cm (PySem.mem_of_lookup e)
  have look : ∀ {y}, scope.names.lookup y = some .free → ∃ c, cenv.cells.lookup y = some c ∧ X.env.cells.lookup y = some c := fun {y} hl => by
    have hy : (y, NameKind.free) ∈ scope.names := PySem.mem_of_lookup hl
    obtain ⟨c', e'⟩ := mem_lookup (cloFrom_has (cells := X.env.cells) (acc := []) hy)
    rw [← hcl] at e'
    exact ⟨c', e', (mem e').1⟩
  have okB : (gxX X s H (gxC elt tg iter scope pos it cenv) cenv fp).Ok := by
    refine ⟨I.ok.mod, by show cenv.scope.kind = _; rw [hsc]; exact ok.blk.kind, by show cenv.globals = _; rw [hce]; exact I.ok.glob, by show cenv.builtins = _; rw [hce]; rfl, by show s.heap.objs.size ≤ cenv.locals; rw [hL]; exact Nat.le_refl _,
      fun y z c e1 e2 => I.ok.inj y z c (mem e1).1 (mem e2).1, fun y hy => ?_, (fun y c z _ => by cases z), fun hc => ?_, ?_, .inr ⟨rfl, by show cenv.frame = some cenv.locals; rw [hce]; rfl⟩, fun b hb => ⟨?_, fun y c e z => ?_⟩, I.bs, Nat.le_trans I.ok.bsz I.sz, fun b o e hb => ?_, fun b hb z => ?_, I.stack, I.stkFree⟩
    · have key : ∀ k, cenv.kindOf y = some k → (k = .cell ∨ k = .free) → ∃ c, cenv.cells.lookup y = some c := fun k hk hk' => by
        unfold Env.kindOf at hk
        rw [hsc] at hk
        rcases hk' with rfl | rfl
        · exact absurd rfl (ok.cell _ (PySem.mem_of_lookup hk))
        · obtain ⟨c, h1, _⟩ := look hk
          exact ⟨c, h1⟩
      rcases hy with hy | hy
      · exact key _ hy (.inl rfl)
      · exact key _ hy (.inr rfl)
    · exact I.ok.hd hc
    · show pushEnvs [cenv] (pushEnvs [] X.A.frames) = _
      rw [I.ok.frames]
      rfl
    · show b ≠ cenv.locals
      rw [hL]; exact Nat.ne_of_lt (hfp b hb).2
    · have e : cenv.cells.lookup y = some c := e
      exact (hfp b hb).1.2.2.2.2.1 y c (mem e).1 z
    · rcases (hfp b hb).1.2.2.2.1 with z | z
      · exact I.ok.noex b o e z
      · exact absurd (Nat.lt_of_lt_of_le (Heap.lt_size e) (Nat.le_trans I.ok.bsz z)) (Nat.lt_irrefl _)
    · rcases List.mem_cons.mp (I.stkSub b z) with z | z
      · exact (hfp b hb).1.2.1 z
      · exact (hfp b hb).1.2.2.1 z
  refine ⟨okB, rfl, hg, Un.kept kp, ⟨m, ?_, fun i y av e1 e2 e3 => ?_⟩, fun y c e => ?_, ?_, fun y c e => ?_, fun p hp => ?_, I.hok.kept kp, by rw [wipe_length]; exact I.len⟩
  · show Heap.Ns _ cenv.locals _
    rw [hL]
    exact hns
  · obtain ⟨e2, hne⟩ := wipe_some e2
    have e3 : Vis cenv.scope y := e3
    unfold Vis at e3
    rw [hsc] at e3
    have no : ∀ k, scope.names.lookup y = some k → ¬ (k = .local ∨ k = .cell) := fun k e hh => by
      rcases ok.blk.own _ (PySem.mem_of_lookup e) hh with e' | e'
      · obtain ⟨p, hp, hpy⟩ := List.mem_map.mp e'
        have e3 := ok.blk.ix p hp
        have : p.1 = y := hpy
        rw [this] at e3
        exact hne (List.mem_map.mpr ⟨p, hp, nodup_ix hN e3 e1⟩)
      · exact e' (List.mem_of_getElem? e1)
    have hfr : scope.names.lookup y = some .free := by
      rcases e3 with e3 | e3 | e3
      · exact absurd (.inl rfl) (no _ e3)
      · exact absurd (.inr rfl) (no _ e3)
      · exact e3
    obtain ⟨m', hn, hl⟩ := I.loc
    have hvis : Vis X.env.scope y := (ok.blk.free _ (PySem.mem_of_lookup hfr) rfl).elim (fun k => .inr (.inl k)) (fun k => .inr (.inr k))
    obtain ⟨w, r, q⟩ := hl i y av e1 e2 hvis
    refine ⟨w, r, .inr ⟨.inr (by show cenv.scope.names.lookup y = _; rw [hsc]; exact hfr), ?_⟩⟩
    obtain ⟨c, h1, h2⟩ := look hfr
    rcases q with ⟨k, _⟩ | ⟨_, c', e', z⟩
    · have k : X.env.scope.names.lookup y = some .local := k
      rcases ok.blk.free _ (PySem.mem_of_lookup hfr) rfl with k' | k' <;> rw [show X.env.scope.names.lookup y = _ from k'] at k <;> cases k
    · rw [h2] at e'; cases e'
      exact ⟨c, h1, z.keeps kp⟩
  · have e : cenv.cells.lookup y = some c := e
    obtain ⟨w, z⟩ := I.cell y c (mem e).1
    exact ⟨w, z.keeps kp⟩
  · show H cenv.locals = none
    rw [hL]; exact I.hok.fresh (Nat.le_refl _)
  · have e : cenv.cells.lookup y = some c := e
    exact I.freeC y c (mem e).1
  · exact absurd (show p ∈ ([] : List (Addr × Obj)) ++ [] from hp) (by simp)
theorem inv_gens {X : Cx} {pins : List (Addr × Obj)} {σ : L2.St} {H : Hp} {s : Shared} (I : Inv X pins σ H s) {g : Array GenState} (hg : AllBare g) : Inv X pins σ H { s with gens := g } :=
  ⟨I.ok, I.os, hg, I.base, I.loc, I.cell, I.free, I.freeC, I.pin, I.hok, I.len⟩
end

/-- the consumer gets b, or the end -/
def gxY (Xg : Cx) (pins : List (Addr × Obj)) (g : Nat) (Q : V → Hp → Prop) (c : Bool) : Protocol := fun _ _ v s kap =>
  ∃ (b : Bool) (H : Hp) (σ : L2.St), v = .bool b ∧ Inv Xg pins σ H s ∧ (b = c → ∀ gs' : GenState, gs'.bare = true → kap (.send .none) ((s.setGen g gs').setGen g .running)) ∧ (b ≠ c → Q (.bl b) H)
def gxF (Xg : Cx) (pins : List (Addr × Obj)) (Q : V → Hp → Prop) (c : Bool) (_ : Nat) (_ : Shared) (s : Shared) : Prop := ∃ (H : Hp) (σ : L2.St), Inv Xg pins σ H s ∧ Q (.bl c) H
abbrev gxR (Xg : Cx) (pins : List (Addr × Obj)) (Q : V → Hp → Prop) (c : Bool) : GenEnd := fun n s₀ r s => r = .ok .next ∧ gxF Xg pins Q c n s₀ s
/-- a turn of the walk -/
def gxTurn (c : Bool) (J : It) (g : TG) (te : TE) (vs : List Nat) (σ : L2.St) (Q : VK) (W : Nat → Nat → Hp → Prop) : Prop := ∀ i m H, W i m H →
  (J.stop i H ∧ Q (.bl c) H) ∨ (J.go i H ∧ ∃ Nx : Hp → Prop, (∀ H', Nx H' → ∃ m', m' < m ∧ W (i + 1) m' H') ∧ ∀ x H', J.yld i H x H' → g x (wipe σ vs) H' fun σ2 H2 => wipe σ2 vs = wipe σ vs ∧ te σ2 H2 fun y H4 => ∃ b, y = .bl b ∧ (b = c → Nx H4) ∧ (b ≠ c → Q (.bl b) H4))
theorem gx_loop {X : Cx} {s0 : Shared} {H0 : Hp} {elt tg iter : Expr} {scope : Scope} {pos : Pos} {it : Addr} {cenv : Env} {fp : List Addr} {pins : List (Addr × Obj)} {J : It} {tn : Nat → Heap → Prop} {g : TG} {te : TE} {vs : List Nat} {σ : L2.St} {Q : VK} {W : Nat → Nat → Hp → Prop} {c : Bool} {gn : Nat}
    (hc : X.calm = true) (hco : cenv.scope.isCoroutine = false) (T : Turn X.prog X.w X.K tg J fp it tn) (hpn : ∀ p ∈ pins, p.1 ∉ fp)
    (pg : PG (gxX X s0 H0 (gxC elt tg iter scope pos it cenv) cenv fp) tg g) (pe : PE (gxX X s0 H0 (gxC elt tg iter scope pos it cenv) cenv fp) elt te)
    (turn : gxTurn c J g te vs σ Q W) :
    ∀ (m i n : Nat) (s₀ s : Shared) (H : Hp), m < n → W i m H → Inv (gxX X s0 H0 (gxC elt tg iter scope pos it cenv) cenv fp) pins (wipe σ vs) H s → tn i s.heap → (∀ b ∈ fp, H b = none) →
      Seg (model X.prog X.w) X.A.in1.in1 (gxR (gxX X s0 H0 (gxC elt tg iter scope pos it cenv) cenv fp) pins Q c) (gxY (gxX X s0 H0 (gxC elt tg iter scope pos it cenv) cenv fp) pins gn Q c) n s₀
        (gxC elt tg iter scope pos it cenv) ((model X.prog X.w).den (gxC elt tg iter scope pos it cenv)) [] s := by
  generalize hXg : gxX X s0 H0 (gxC elt tg iter scope pos it cenv) cenv fp = Xg at pg pe
  have eA : X.A.in1.in1.over (gxC elt tg iter scope pos it cenv) [] = Xg.A := by rw [← hXg]
  have eP : Xg.prog = X.prog := by rw [← hXg]
  have eW : Xg.w = X.w := by rw [← hXg]
  have eK : Xg.K = X.K := by rw [← hXg]
  have eC : Xg.calm = true := by rw [← hXg]; exact hc
  have ee : Xg.env = cenv := by rw [← hXg]
  have ex : Xg.ex = fp := by rw [← hXg]
  have en : Xg.pn = [] := by rw [← hXg]
  have exe : Xg.xe = fun _ _ => False := by rw [← hXg]
  have stat : ∀ {σ' : L2.St} {H' : Hp} {s' : Shared}, Inv Xg pins σ' H' s' → (∀ b ∈ fp, H' b = none) → ∀ b ∈ fp, FpOk Xg pins H' b := fun {σ' H' s'} I' hn b hb =>
    ⟨hn b hb, (I'.ok.exf b (ex ▸ hb)).1, I'.ok.exfs b (ex ▸ hb), .inl (ex ▸ hb), fun x c e => (I'.ok.exf b (ex ▸ hb)).2 x c e, fun p hp z => hpn p (by rw [en] at hp; simpa using hp) (z ▸ hb)⟩
  intro m
  induction m using Nat.strongRecOn with
  | ind m ih =>
    intro i n s₀ s H hmn w I st hn0
    show Seg _ _ _ _ _ s₀ _ ((compTurn (.GeneratorExp elt [⟨tg, iter, [], 0⟩] scope pos) 0 (.ref it) .none cenv).onRaise (leaving cenv)) [] s
    rw [compTurn_gen, Sem.onRaise_eq_wrap]
    refine seg_bind_wrap (wpAny_standAt ?_)
    rcases turn i m H w with ⟨stop, qq⟩ | ⟨go, Nx, hNx, step⟩
    · have td := T.done Xg eP eW eK eC i pins s _ H (fun _ _ => False) I (stat I hn0) st stop
      rw [← eA] at td
      refine seg_bind_wrap (thnF td fun r s6 ⟨hr, I6⟩ => ?_)
      subst hr
      exact seg_end (.ok .next) ⟨rfl, H, _, I6, qq⟩
    · have ti := T.item Xg eP eW eK eC i pins s _ H (fun _ _ => False) I (stat I hn0) st go
      rw [← eA] at ti
      refine seg_bind_wrap (thnF ti fun r s6 ⟨u, hr, h6⟩ => ?_)
      subst hr
      refine seg_bind_wrap (thnF h6 fun _ s7 ⟨x, H7, I7, r7, y7, st7, n7⟩ => ?_)
      have I7' := I7.pinned (stat I7 n7) (T.obj _ _ st7)
      have hg := pg.run _ s7 _ H7 x u _ I7' r7 (step x H7 y7)
      rw [eP, eW, ← eA, ee, exe] at hg
      refine seg_bind_wrap (thnF hg fun _ s8 ⟨σ8, H8, I8, hw8, q8⟩ => ?_)
      refine seg_bind_wrap (wpAny_tests_nil ?_)
      simp only [if_true]
      have hy : ∀ v, yieldOut cenv v = yieldValue v := fun v => by simp only [yieldOut, hco, Bool.false_eq_true, if_false]
      simp only [hy]
      rw [Sem.bind_eq_wrap', Sem.bind_eq_wrap', Sem.wrap_wrap, Sem.wrap_wrap]
      have he := pe.run _ s8 σ8 H8 _ I8 q8
      rw [eP, eW, ← eA, ee, exe] at he
      refine seg_wrap (thnF he fun y s9 ⟨yv, H9, I9, r9, b, eb, k1, k2⟩ => ?_)
      subst eb
      have r9 : y = .bool b := r9
      subst r9
      obtain ⟨n', rfl⟩ : ∃ n', n = n' + 1 := ⟨n - 1, by omega⟩
      have I9' : Inv Xg pins σ8 H9 s9 := I9.unpinned
      refine seg_at (seg_yield rfl rfl rfl ⟨b, H9, σ8, rfl, I9', fun hb gs' hgs => ?_, k2⟩)
      obtain ⟨m', hm, w'⟩ := hNx H9 (k1 hb)
      have pin' : ∀ b ∈ fp, ∀ o, s7.heap.get? b = some o → s9.heap.get? b = some o ∧ H9 b = none := fun b hb o e =>
        let z := I9.pin (b, o) (List.mem_append_right _ (List.mem_append_right _ (mem_pinsAt hb e)))
        ⟨z.1, z.2.1⟩
      have hl : (wipe σ vs).length = σ8.length := by rw [← hw8, wipe_length]
      have I10 : Inv Xg pins (wipe σ vs) H9 s9 := I9'.weak hl fun j v e => by
        rw [← hw8] at e
        exact (wipe_some e).1
      refine seg_again rfl (ih m' hm (i + 1) n' _ _ H9 (by omega) w' (inv_gens (inv_gens I10 (allBare_setGen (g := gn) (x := gs') I10.bare hgs)) (allBare_setGen (allBare_setGen (g := gn) (x := gs') I10.bare hgs) rfl)) (T.keep _ _ _ st7 fun b hb o e => (pin' b hb o e).1) fun b hb => ?_)
      obtain ⟨o, e, _⟩ := T.obj _ _ st7 b hb
      exact (pin' b hb o e).2
end Den
/-! DenN: all, any of a generator expression: the consumers, the making, the rule -/
namespace Den
open PySem PySem.Spec PyProof.Rows L2 GenW GxR
section
variable {X : Cx} {pins : List (Addr × Obj)} {σ : L2.St} {H : Hp} {s : Shared}
/-- what the generator's frame gives back -/
def gxBack (X Xg : Cx) (pins pins' : List (Addr × Obj)) (σ : L2.St) (a : Addr) (gn : Nat) : Prop := ∀ (s' : Shared) (σ' : L2.St) (H' : Hp), Inv Xg pins' σ' H' s' → s'.heap.IsGen a gn ∧ s'.heap.NoLimit ∧ Inv X pins σ H' s'
def gxAt (X Xg : Cx) (pins' : List (Addr × Obj)) (a : Addr) (gn n : Nat) (Q : VK) (c : Bool) (s : Shared) : Prop := s.heap.IsGen a gn ∧ s.heap.NoLimit ∧ ∃ gs, s.gens[gn]? = some gs ∧
  gs.Goes (model X.prog X.w) X.A.in1.in1 (gxR Xg pins' Q c) (gxY Xg pins' gn Q c) n (.send .none) (s.setGen gn .running)
theorem gx_next {Xg : Cx} {pins' : List (Addr × Obj)} {a : Addr} {gn n : Nat} {Q : VK} {c : Bool} {Q' : Option Value → Shared → Prop} {E : Value → Shared → Prop} (hh : X.A.handled = none) (hd : X.A.depth < recursionLimit) (hb : gxBack X Xg pins pins' σ a gn) (h : gxAt X Xg pins' a gn n Q c s)
    (hend : ∀ s' H', Inv X pins σ H' s' → Q (.bl c) H' → Q' none s') (hstop : ∀ s' H' b, b ≠ c → Inv X pins σ H' s' → Q (.bl b) H' → Q' (some (.bool b)) s')
    (hgo : ∀ m s', n = m + 1 → gxAt X Xg pins' a gn m Q c s' → Q' (some (.bool c)) s') : wpAny (model X.prog X.w) X.A.in1 (pyNext (.ref a)) Q' E s := by
  obtain ⟨h1, h2, gs, h3, h4⟩ := h
  have hgl : gn < s.gens.size := (Array.getElem?_eq_some_iff.mp h3).1
  refine wpAny_gsz (n := gn + 1) hgl (wpAny_pyNext_genexpQ (P := gxF Xg pins' Q c) (A := X.A.in1) hh h2 hd h1 h3 h4 (fun v s₁ gs' hbare hv => ?_) fun s₁ hp h' hk => ?_)
  · intro hsz
    obtain ⟨b, H1, σ1, rfl, I1, k1, k2⟩ := hv
    obtain ⟨z1, z2, I2⟩ := hb _ _ _ I1
    by_cases e : b = c
    · subst e
      cases n with
      | zero => exact (k1 rfl gs' hbare).elim
      | succ m => exact hgo m _ rfl ⟨z1, z2, gs', setGen_at (by rw [setGen_size] at hsz; exact hsz), k1 rfl gs' hbare⟩
    · exact hstop _ H1 b e (inv_gens I2 (allBare_setGen I2.bare hbare)) (k2 e)
  · intro _
    obtain ⟨H1, σ1, I1, q⟩ := hp
    obtain ⟨_, _, I2⟩ := hb _ _ _ I1
    exact hend _ H1 (inv_gens (Inv.kept (t' := s₁.toks) I2 hk) (allBare_setGen I2.bare rfl)) q
theorem gx_all {Xg : Cx} {pins' : List (Addr × Obj)} {a : Addr} {gn : Nat} {Q : VK} {Rr : Result → Shared → Prop} (hh : X.A.handled = none) (hd : X.A.depth < recursionLimit) (hb : gxBack X Xg pins pins' σ a gn)
    (hR : ∀ b s' H', Inv X pins σ H' s' → Q (.bl b) H' → Rr (.ok (.ret (.bool b))) s') : ∀ (n : Nat) (s : Shared), gxAt X Xg pins' a gn n Q true s → codeAny (model X.prog X.w) X.A (.builtin "all.loop" ⟨[.ref a], []⟩) Rr s := by
  intro n
  induction n with
  | zero =>
    intro s h
    refine codeAny_builtin F.entry_all_loop ?_
    rw [Around.under_plainId F.plain_all_loop _]
    show wpAny _ X.A.in1 (pyNext (.ref a) >>= _) _ _ s
    refine wpAny_bind (gx_next hh hd hb h (fun s' H' I q => ?_) (fun s' H' b hbc I q => ?_) fun m s' e _ => by cases e)
    · exact wpAny_bind (wpAny_rule (wpAny_pure (hR _ _ _ I q)))
    · refine wpAny_bind (wpAny_holding (wpAny_truthy_bool ?_))
      refine wpAny_bind (wpAny_letGo ?_)
      cases b with
      | true => exact absurd rfl hbc
      | false =>
        simp only [Bool.false_eq_true, if_false]
        exact wpAny_bind (wpAny_rule (wpAny_pure (hR _ _ _ I q)))
  | succ n ih =>
    intro s h
    refine codeAny_builtin F.entry_all_loop ?_
    rw [Around.under_plainId F.plain_all_loop _]
    show wpAny _ X.A.in1 (pyNext (.ref a) >>= _) _ _ s
    refine wpAny_bind (gx_next hh hd hb h (fun s' H' I q => ?_) (fun s' H' b hbc I q => ?_) fun m s' e h' => ?_)
    · exact wpAny_bind (wpAny_rule (wpAny_pure (hR _ _ _ I q)))
    · refine wpAny_bind (wpAny_holding (wpAny_truthy_bool ?_))
      refine wpAny_bind (wpAny_letGo ?_)
      cases b with
      | true => exact absurd rfl hbc
      | false =>
        simp only [Bool.false_eq_true, if_false]
        exact wpAny_bind (wpAny_rule (wpAny_pure (hR _ _ _ I q)))
    · cases e
      refine wpAny_bind (wpAny_holding (wpAny_truthy_bool ?_))
      refine wpAny_bind (wpAny_letGo ?_)
      simp only [if_true]
      exact wpAny_pure ⟨plainId_quiet F.plain_all_loop _, ih s' h'⟩
theorem gx_any {Xg : Cx} {pins' : List (Addr × Obj)} {a : Addr} {gn : Nat} {Q : VK} {Rr : Result → Shared → Prop} (hh : X.A.handled = none) (hd : X.A.depth < recursionLimit) (hb : gxBack X Xg pins pins' σ a gn)
    (hR : ∀ b s' H', Inv X pins σ H' s' → Q (.bl b) H' → Rr (.ok (.ret (.bool b))) s') : ∀ (n : Nat) (s : Shared), gxAt X Xg pins' a gn n Q false s → codeAny (model X.prog X.w) X.A (.builtin "any.loop" ⟨[.ref a], []⟩) Rr s := by
  intro n
  induction n with
  | zero =>
    intro s h
    refine codeAny_builtin F.entry_any_loop ?_
    rw [Around.under_plainId F.plain_any_loop _]
    show wpAny _ X.A.in1 (pyNext (.ref a) >>= _) _ _ s
    refine wpAny_bind (gx_next hh hd hb h (fun s' H' I q => ?_) (fun s' H' b hbc I q => ?_) fun m s' e _ => by cases e)
    · exact wpAny_bind (wpAny_rule (wpAny_pure (hR _ _ _ I q)))
    · refine wpAny_bind (wpAny_holding (wpAny_truthy_bool ?_))
      refine wpAny_bind (wpAny_letGo ?_)
      cases b with
      | false => exact absurd rfl hbc
      | true =>
        simp only [if_true]
        exact wpAny_bind (wpAny_rule (wpAny_pure (hR _ _ _ I q)))
  | succ n ih =>
    intro s h
    refine codeAny_builtin F.entry_any_loop ?_
    rw [Around.under_plainId F.plain_any_loop _]
    show wpAny _ X.A.in1 (pyNext (.ref a) >>= _) _ _ s
    refine wpAny_bind (gx_next hh hd hb h (fun s' H' I q => ?_) (fun s' H' b hbc I q => ?_) fun m s' e h' => ?_)
    · exact wpAny_bind (wpAny_rule (wpAny_pure (hR _ _ _ I q)))
    · refine wpAny_bind (wpAny_holding (wpAny_truthy_bool ?_))
      refine wpAny_bind (wpAny_letGo ?_)
      cases b with
      | false => exact absurd rfl hbc
      | true =>
        simp only [if_true]
        exact wpAny_bind (wpAny_rule (wpAny_pure (hR _ _ _ I q)))
    · cases e
      refine wpAny_bind (wpAny_holding (wpAny_truthy_bool ?_))
      refine wpAny_bind (wpAny_letGo ?_)
      simp only [Bool.false_eq_true, if_false]
      exact wpAny_pure ⟨plainId_quiet F.plain_any_loop _, ih s' h'⟩

def gxReady (X : Cx) (pins : List (Addr × Obj)) (σ : L2.St) (Q : VK) (c : Bool) (a : Addr) (s : Shared) : Prop := ∃ (Xg : Cx) (pins' : List (Addr × Obj)) (gn n : Nat), gxBack X Xg pins pins' σ a gn ∧ gxAt X Xg pins' a gn n Q c s
def tGx (c : Bool) (P : Addr) (wi : TI) (g : TG) (te : TE) (vs : List Nat) : TE := fun σ H Q => wi σ H fun J H1 => TabG H1 P ∧ ∀ H2, Tabbed P H1 H2 → ∃ W : Nat → Nat → Hp → Prop, (∃ m, W 0 m H2) ∧ gxTurn c J g te vs σ Q W
theorem gx_make {cc P : Addr} {elt tg iter : Expr} {scope : Scope} {own : List (Str × Nat)} {gpos : Pos} {wi : TI} {g : TG} {te : TE} {k : Nat} {Q : VK} {c : Bool} {Q' : Value → Shared → Prop}
    (hr : Room (k + 1) X.A) (hc : X.calm = true) (TB : TabB X.base X.mg cc P) (hcode : X.env.code = .ref cc) (hN : X.N.Nodup) (ok : GenOk X.N X.env.scope scope own) (hi : PI X tg iter wi)
    (hg : ∀ (s : Shared) (H : Hp) (C : Addr) (cl : List (Str × Addr)) (code : Value) (it : Addr) (fp : List Addr), PG (gxX X s H (gxC elt tg iter scope gpos it (genEnv scope cl C code builtinsNs X.env)) (genEnv scope cl C code builtinsNs X.env) fp) tg g)
    (he : ∀ (s : Shared) (H : Hp) (C : Addr) (cl : List (Str × Addr)) (code : Value) (it : Addr) (fp : List Addr), PE (gxX X s H (gxC elt tg iter scope gpos it (genEnv scope cl C code builtinsNs X.env)) (genEnv scope cl C code builtinsNs X.env) fp) elt te)
    (hs : ∀ v, genFold iter X.env v = pure v) (I : Inv X pins σ H s) (h : tGx c P wi g te (own.map (·.2)) σ H Q)
    (hQ : ∀ a s5, gxReady X pins σ Q c a s5 → Q' (.ref a) s5) : wpAny (model X.prog X.w) X.A (eval (gxE elt tg iter scope gpos) X.env) Q' X.xe s := by
  have hfree : ∀ y ∈ scope.names, y.2 = .free → ∃ c, X.env.cells.lookup y.1 = some c := fun y hy e => by
    rcases ok.blk.free y hy e with k | k
    · exact I.ok.has _ (.inl k)
    · exact I.ok.has _ (.inr k)
  refine wpAny_GeneratorExp_make ok.co (closure_ok hfree) ok.cell ok.dot ok.blk.kind (by have := hr.dp; omega) ?_ hs
  refine thn (hi.run pins s σ H _ I h) fun xv s1 hx => thn hx fun itv s2 h2 => ?_
  obtain ⟨it, fp, tn, J, H1, e, I2, T, st2, f2, ⟨ps, hP, ht⟩, q⟩ := h2
  subst e
  refine ⟨I2.nolimit, ?_⟩
  have hPs : s2.heap.get? P = some { cls := .none, data := .fields ps } := I2.hok P _ hP
  have cd : PySem.W.CodeHd s2.heap cc P := TB.code.keeps fun b u e => I2.bk b u e
  have sz : ∀ b ∈ fp, b < s2.heap.objs.size := fun b hb => by
    obtain ⟨o, e, _⟩ := T.obj _ _ st2 b hb
    exact Heap.lt_size e
  have cont : ∀ (code : Value) (h3 : Heap) (tk : Nat) (more : Array Value), Heap.ExtBut P s2.heap h3 → s2.heap.objs.size ≤ h3.objs.size → h3.get? P = some { cls := .none, data := .fields (ps ++ more) } → TriplesOk (ps ++ more).toList →
      wpAny (model X.prog X.w) X.A (builtinsFor X.env.globals X.env.builtins) (fun bi s₄ =>
        ∀ h', h'.Ns s₄.heap.objs.size (fun y => if y = ".0" then some (.ref it) else none) → Heap.SameBut s₄.heap.objs.size (s₄.heap.push { cls := .type "frame", data := .dict #[] }) h' →
          Q' (.ref h'.objs.size) { s₄ with
            gens := s₄.gens.push (.fresh (.compStart (.GeneratorExp elt [⟨tg, iter, [], 0⟩] scope gpos) 0 (.ref it) .none (genEnv scope (cloFrom X.env.cells scope.names []) s₄.heap.objs.size code bi X.env))),
            toks := s₄.toks + 1 + 1 + 1,
            heap := h'.push { cls := .type "generator", data := .fields #[.int s₄.gens.size 0, .str "<genexpr>" (s₄.toks + 1), .str (X.env.qual ++ "<genexpr>") (s₄.toks + 1 + 1)] } }) X.xe { s2 with heap := h3, toks := tk } := by
    intro code h3 tk more hx hsz hP3 ht3
    have I3 : Inv X pins σ (upd H1 P (.tbl (ps ++ more))) { s2 with heap := h3, toks := tk } := inv_tab (g' := s2.gens) (d' := s2.drawn) I2 hP (fun b o hb e => hx b o hb e) hP3 I2.bare
    obtain ⟨W, ⟨m0, w0⟩, turn⟩ := q (upd H1 P (.tbl (ps ++ more))) ⟨⟨ps ++ more, upd_same, ht3⟩, fun b hb => upd_ne hb⟩
    have f3 : ∀ b ∈ fp, FpOk X pins (upd H1 P (.tbl (ps ++ more))) b ∧ b < h3.objs.size := fun b hb => by
      refine ⟨⟨?_, (f2 b hb).2⟩, Nat.lt_of_lt_of_le (sz b hb) hsz⟩
      rw [upd_ne (fun z => by have := (f2 b hb).1; rw [z, hP] at this; cases this)]
      exact (f2 b hb).1
    have nP : ∀ b ∈ fp, b ≠ P := fun b hb z => by have := (f2 b hb).1; rw [z, hP] at this; cases this
    generalize hH3 : upd H1 P (.tbl (ps ++ more)) = H3 at I3 w0 f3
    generalize hs3 : ({ s2 with heap := h3, toks := tk } : Shared) = s3 at I3 ⊢
    have eh : s3.heap = h3 := by rw [← hs3]
    obtain ⟨bm, ob, e1, e2, e3, e4, e5, e6, e7, e8⟩ := TB.bm
    refine wpAny_builtinsFor (m := X.mg) (by rw [I3.ok.glob]; exact I3.mod.glob.keeps I3.bk) e1 e2 (I3.bk _ _ e5) e6 e7 e8 ?_
    intro h' hn' hs'
    have hsz' : h'.objs.size = s3.heap.objs.size + 1 := by rw [hs'.1, Heap.size_push]
    have keep' : ∀ b o, s3.heap.get? b = some o → h'.get? b = some o := fun b o e => hs'.extBut b o (Nat.ne_of_lt (Heap.lt_size e)) (Heap.get?_push_of_some _ e)
    generalize hgo : ({ cls := .type "generator", data := .fields #[.int s3.gens.size 0, .str "<genexpr>" (s3.toks + 1), .str (X.env.qual ++ "<genexpr>") (s3.toks + 1 + 1)] } : Obj) = go
    have kp5 : ∀ b o, s3.heap.get? b = some o → (h'.push go).get? b = some o := fun b o e => Heap.get?_push_of_some _ (keep' b o e)
    have f3' : ∀ b ∈ fp, FpOk X pins H3 b ∧ b < s3.heap.objs.size := fun b hb => by rw [eh]; exact f3 b hb
    generalize hce : genEnv scope (cloFrom X.env.cells scope.names []) s3.heap.objs.size code builtinsNs X.env = cenv
    have pg := hg s3 H3 s3.heap.objs.size (cloFrom X.env.cells scope.names []) code it fp
    have pe := he s3 H3 s3.heap.objs.size (cloFrom X.env.cells scope.names []) code it fp
    rw [hce] at pg pe
    have bare5 : AllBare (s3.gens.push (.fresh (.compStart (.GeneratorExp elt [⟨tg, iter, [], 0⟩] scope gpos) 0 (.ref it) .none cenv))) := AllBare.push I3.bare rfl
    have I4 := gen_start (elt := elt) (tg := tg) (iter := iter) (pos := gpos) (it := it) (t5 := s3.toks + 1 + 1 + 1) I3 ok hN f3' hce.symm kp5 (hn'.push go) bare5
    have nG : H3 h'.objs.size = none := I3.hok.fresh (by rw [hsz']; exact Nat.le_succ _)
    have cL : cenv.locals = s3.heap.objs.size := by rw [← hce]; rfl
    have I5 : Inv (gxX X s3 H3 (gxC elt tg iter scope gpos it cenv) cenv fp) [(h'.objs.size, go)] (wipe σ (own.map (·.2))) H3 { s3 with heap := h'.push go, gens := s3.gens.push (.fresh (.compStart (.GeneratorExp elt [⟨tg, iter, [], 0⟩] scope gpos) 0 (.ref it) .none cenv)), toks := s3.toks + 1 + 1 + 1 } :=
      I4.pins_of fun p hp => by
        rw [List.mem_singleton.mp hp]
        refine ⟨Heap.get?_push_size _ (by rw [← hgo]; rfl), nG, ?_, fun hb => ?_, fun v z => by rw [← hgo] at z; cases z⟩
        · show h'.objs.size ≠ cenv.locals
          rw [cL, hsz']; exact Nat.succ_ne_self _
        · obtain ⟨_, o, ho, _⟩ := I4.ok.funs.mem hb
          have := Heap.lt_size (show s3.heap.get? h'.objs.size = some o from ho)
          rw [hsz'] at this
          exact absurd this (Nat.not_lt.mpr (Nat.le_succ _))
    have isG : ∀ hh : Heap, hh.get? h'.objs.size = some go → hh.IsGen h'.objs.size s3.gens.size := fun hh e => ⟨go, _, _, e, by rw [← hgo], by rw [← hgo], by rw [← hgo]⟩
    refine hQ _ _ ⟨gxX X s3 H3 (gxC elt tg iter scope gpos it cenv) cenv fp, [(h'.objs.size, go)], s3.gens.size, m0 + 1, fun s' σ' H' I' => ?_, isG _ (Heap.get?_push_size _ (by rw [← hgo]; rfl)), I5.nolimit, _, Array.getElem?_push_size .., rfl, ?_⟩
    · have z := I'.pin (h'.objs.size, go) (List.mem_append_right _ List.mem_cons_self)
      exact ⟨isG _ z.1, I'.nolimit, I3.call' (ch := fp) I'.os I'.base I'.hok I'.bare fun b hb => ⟨(f3' b hb).1.2.2.2.1, (f3' b hb).1.2.1, (f3' b hb).1.2.2.2.2.1, (f3' b hb).1.2.2.2.2.2⟩⟩
    · have st5 : tn 0 (h'.push go) := T.keep _ _ _ st2 fun b hb o e => kp5 b o (by rw [eh]; exact hx b o (nP b hb) e)
      have loop := fun (s₀ : Shared) => gx_loop (gn := s3.gens.size) hc (by rw [← hce]; exact ok.co) T (fun p hp z => by
          rw [List.mem_singleton.mp hp] at z
          have := (f3' _ z).2
          have e : (h'.objs.size, go).1 = h'.objs.size := rfl
          rw [e, hsz'] at this
          exact absurd this (Nat.not_lt.mpr (Nat.le_succ _))) pg pe turn m0 0 (m0 + 1) s₀ _ H3 (Nat.lt_succ_self _) w0 (inv_gens I5 (allBare_setGen (g := s3.gens.size) (x := .running) I5.bare rfl)) st5 (fun b hb => (f3' b hb).1.1)
      show Seg _ _ _ _ _ _ _ ((compStart (.GeneratorExp elt [⟨tg, iter, [], 0⟩] scope gpos) 0 (.ref it) .none cenv).onRaise (leaving cenv)) [] _
      unfold compStart
      rw [Sem.onRaise_eq_wrap]
      show Seg _ _ _ _ _ _ _ ((ask >>= _).wrap _ _ _ _) [] _
      refine seg_bind_wrap (wpAny_askSetting ?_)
      split
      · exact seg_again rfl (loop _)
      · first
          | exact seg_bind_wrap (wpAny_rule (seg_bind_wrap (wpAny_standAt (seg_bind_wrap (T.self _ 0 _ _ _ st5 (seg_again rfl (loop _)))))))
          | (refine seg_bind_wrap (wpAny_rule ?_); show Seg _ _ _ _ _ _ _ ((standAt iter.pos >>= _).wrap _ _ _ _) [] _; exact seg_bind_wrap (wpAny_standAt (seg_bind_wrap (T.self _ 0 _ _ _ st5 (seg_again rfl (loop _))))))
  cases hf : codeAmong gpos ps.toList with
  | none =>
    refine wpAny_genexprCodeX hcode (cd.code hPs ht) (cd.tab hPs) hf fun c' h' tk hx hge hlt hco' _ htab' _ => ?_
    obtain ⟨o1, vs, f1, tf, fl, tg, inF, tx, tt, op, _, _, _, _, _, _, _, _, _, htr, _⟩ := hco'
    exact cont _ h' tk _ hx (Nat.le_trans hge (Nat.le_of_lt hlt)) htab'.2 htr
  | some cv =>
    refine wpAny_genexprCode_hit hcode (cd.code hPs ht) hf ?_
    exact cont cv s2.heap s2.toks #[] (Heap.ExtBut.refl _ _) (Nat.le_refl _) (by rw [Array.append_empty]; exact hPs) (by rw [Array.append_empty]; exact ht)
end
section
variable {X : Cx} {elt tg iter : Expr} {scope : Scope} {own : List (Str × Nat)} {gpos p pos : Pos} {wi : TI} {g : TG} {te : TE} {k : Nat} {cc P : Addr}
theorem pe_gxall (hr : Room (k + 1) X.A) (hc : X.calm = true) (hgl : Gl X "all") (hm : X.mg "all" = none) (TB : TabB X.base X.mg cc P) (hcode : X.env.code = .ref cc) (hN : X.N.Nodup) (ok : GenOk X.N X.env.scope scope own) (hi : PI X tg iter wi)
    (hg : ∀ (s : Shared) (H : Hp) (C : Addr) (cl : List (Str × Addr)) (code : Value) (it : Addr) (fp : List Addr), PG (gxX X s H (gxC elt tg iter scope gpos it (genEnv scope cl C code builtinsNs X.env)) (genEnv scope cl C code builtinsNs X.env) fp) tg g)
    (hel : ∀ (s : Shared) (H : Hp) (C : Addr) (cl : List (Str × Addr)) (code : Value) (it : Addr) (fp : List Addr), PE (gxX X s H (gxC elt tg iter scope gpos it (genEnv scope cl C code builtinsNs X.env)) (genEnv scope cl C code builtinsNs X.env) fp) elt te)
    (hs : ∀ v, genFold iter X.env v = pure v := by intro _; rfl)
    (he : starEach [gxE elt tg iter scope gpos] X.env = (false, eval (gxE elt tg iter scope gpos) X.env) :: starEach [] X.env := by rfl) :
    PE X (.Call (.Name "all" p) [gxE elt tg iter scope gpos] [] pos) (tGx true P wi g te (own.map (·.2))) := by
  refine ⟨fun pins s σ H Q I h => ?_⟩
  refine wpAny_Call_Name_kw (ld_blt I hgl hm boot_all ?_)
  refine PyProof.Rows.callWith_builtin1 ?_ he (by rfl)
  rw [he]
  show wpAny _ _ (spliced ((false, eval (gxE elt tg iter scope gpos) X.env) :: backTo pos (starEach [] X.env))) _ _ s
  refine Calls.spliced_cons (gx_make hr hc TB hcode hN ok hi hg hel hs I h fun a s5 hR => ?_)
  refine Calls.spliced_nil ?_
  obtain ⟨Xg, pins', gn, n, hb, h5⟩ := hR
  refine call_function_tree F.kind_all F.plain_all F.entry_all (F.args_all1 _) ?_
  unfold Builtin.«all»
  refine wpAny_bind (m := oneArg "all" _) (wpAny_pure ?_)
  refine wpAny_bind (wpAny_pyIter_gen h5.1 ?_)
  exact wpAny_pure ⟨plainId_quiet F.plain_all_loop _, gx_all (I.ok.hd hc) (by have := hr.dp; omega) hb (fun b s' H' I' q => ⟨.bl b, H', I', rfl, q⟩) n s5 h5⟩
theorem pe_gxany (hr : Room (k + 1) X.A) (hc : X.calm = true) (hgl : Gl X "any") (hm : X.mg "any" = none) (TB : TabB X.base X.mg cc P) (hcode : X.env.code = .ref cc) (hN : X.N.Nodup) (ok : GenOk X.N X.env.scope scope own) (hi : PI X tg iter wi)
    (hg : ∀ (s : Shared) (H : Hp) (C : Addr) (cl : List (Str × Addr)) (code : Value) (it : Addr) (fp : List Addr), PG (gxX X s H (gxC elt tg iter scope gpos it (genEnv scope cl C code builtinsNs X.env)) (genEnv scope cl C code builtinsNs X.env) fp) tg g)
    (hel : ∀ (s : Shared) (H : Hp) (C : Addr) (cl : List (Str × Addr)) (code : Value) (it : Addr) (fp : List Addr), PE (gxX X s H (gxC elt tg iter scope gpos it (genEnv scope cl C code builtinsNs X.env)) (genEnv scope cl C code builtinsNs X.env) fp) elt te)
    (hs : ∀ v, genFold iter X.env v = pure v := by intro _; rfl)
    (he : starEach [gxE elt tg iter scope gpos] X.env = (false, eval (gxE elt tg iter scope gpos) X.env) :: starEach [] X.env := by rfl) :
    PE X (.Call (.Name "any" p) [gxE elt tg iter scope gpos] [] pos) (tGx false P wi g te (own.map (·.2))) := by
  refine ⟨fun pins s σ H Q I h => ?_⟩
  refine wpAny_Call_Name_kw (ld_blt I hgl hm boot_any ?_)
  refine PyProof.Rows.callWith_builtin1 ?_ he (by rfl)
  rw [he]
  show wpAny _ _ (spliced ((false, eval (gxE elt tg iter scope gpos) X.env) :: backTo pos (starEach [] X.env))) _ _ s
  refine Calls.spliced_cons (gx_make hr hc TB hcode hN ok hi hg hel hs I h fun a s5 hR => ?_)
  refine Calls.spliced_nil ?_
  obtain ⟨Xg, pins', gn, n, hb, h5⟩ := hR
  refine call_function_tree F.kind_any F.plain_any F.entry_any (F.args_any1 _) ?_
  unfold Builtin.«any»
  refine wpAny_bind (m := oneArg "any" _) (wpAny_pure ?_)
  refine wpAny_bind (wpAny_pyIter_gen h5.1 ?_)
  exact wpAny_pure ⟨plainId_quiet F.plain_any_loop _, gx_any (I.ok.hd hc) (by have := hr.dp; omega) hb (fun b s' H' I' q => ⟨.bl b, H', I', rfl, q⟩) n s5 h5⟩
end
end Den
/-! DenO: all, any of a generator expression, by data -/
namespace Den
open PySem PySem.Spec PyProof.Rows L2 GenW GxR
def gxLoop (c : Bool) (vs : List Nat) (g : R → M Unit) (fe : M R) : List D → M Bool
  | [] => pure c
  | d :: r => do
    wipeM vs
    g (.dat d)
    let y ← fe
    let b ← asBool y
    if b = c then gxLoop c vs g fe r else pure (!c)
def gxD (c : Bool) (vs : List Nat) (fi : M (List D)) (g : R → M Unit) (fe : M R) : M R := do
  let items ← fi
  let b ← within vs (gxLoop c vs g fe items)
  retB b
section
variable {G : Gh} {Hd : Hp} {ds : DS} {ts : List (R × V)} {σ : L2.St} {H H2 : Hp} {P : Addr}
/-- a def's table of code has grown -/
theorem Rel0.tabbed (h : Rel0 G Hd ds ts σ H) (hP : (P, none) ∈ G.T) (hU : ∀ Q ∈ G.T, Q.1 = P → Q = (P, none)) (t : Tabbed P H H2) : Rel0 G Hd ds ts σ H2 := by
  obtain ⟨⟨ps, w1, w2⟩, w3, w4⟩ := h.tab (P, none) hP
  have w3 : Hd P = none := w3
  have w4 : G.F P = none := w4
  have ne : ∀ {p o}, H p = some o → (∀ ps, o ≠ .tbl ps) → p ≠ P := fun e n z => by rw [z, w1] at e; cases e; exact n ps rfl
  refine h.move (ok := fun q => q ≠ P) (fun q hq n _ => ⟨t.2 q hq, n⟩) (Same.refl _) (fun b u e => ?_) (fun a u e => ?_) (fun Q hQ => ?_) (fun i q w z => ?_) fun q hq z => ?_
  · rw [t.2 b (fun z => by rw [z, w3] at e; cases e)]; exact h.sub b u e
  · exact ⟨by rw [t.2 a (fun z => by rw [z, w4] at e; cases e)]; exact (h.fr a u e).1, (h.fr a u e).2⟩
  · obtain ⟨x1, x2, _⟩ := h.tab Q hQ
    by_cases e : Q.1 = P
    · have e2 : Q = (P, none) := hU Q hQ e
      subst e2; exact ⟨t.1, w3⟩
    · exact ⟨x1.keep (t.2 Q.1 e) (fun c φ e => by rw [t.2 c (fun z => by rw [z, w1] at e; cases e)]; exact e), x2⟩
  · obtain ⟨_, _, _, y⟩ := h.ownsAt w
    obtain ⟨u, e, n⟩ := y.1.some
    exact ne e n z
  · obtain ⟨d', hd'⟩ := of_ownT hq
    obtain ⟨q', e, y⟩ := h.tmp _ hd'
    cases e
    obtain ⟨u, e, n⟩ := y.1.some
    exact ne e n z
end
section
variable {X : Cx} {G : Gh} {W : L2.WX} {elt tg iter : Expr} {pos gpos p : Pos} {fe : M R} {g : R → M Unit} {fi : M (List D)} {vs : List Nat} {c : Bool} {P : Addr}
theorem gx_read (wi : TI) (hwi : wi = iD G W fi) (hP : (P, none) ∈ G.T) (hU : ∀ Q ∈ G.T, Q.1 = P → Q = (P, none)) {σ : L2.St} {H : Hp} {Q : VK} (q : tD G W (gxD c vs fi g fe) σ H Q) :
    tGx c P wi (tG G W0 (some vs) g) (tD G W0 fe) vs σ H Q := by
  subst hwi
  obtain ⟨ds, ts, h, p⟩ := q
  refine ⟨ds, ts, h, (Post.bind.mp p).mono (fun items ds1 p1 J tmps H1 hJ hD h1 => ?_) fun _ _ z => z⟩
  have p1 := Post.bind.mp p1
  unfold within at p1
  split at p1
  · rename_i ok
    cases hm : gxLoop c vs g fe items ds1 with
    | none => simp only [hm] at p1; exact p1.elim
    | some res =>
      cases res with
      | err c s => simp only [hm] at p1; exact p1.elim
      | ok bb dsE =>
        simp only [hm] at p1
        split at p1
        · rename_i sh
          have fin : ∀ v H', Rel G (restoreD ds1 dsE vs) ((.dat (.bool bb), v) :: ts) σ H' → Q v H' := p1
          obtain ⟨Hd1, h1⟩ := h1
          refine ⟨(h1.tab (P, none) hP).1, fun H2 hT => ?_⟩
          have h1' := h1.tabbed hP hU hT
          obtain ⟨sv, sD, s1, s2⟩ := h1'.save (vs := vs)
          have nb := h1'.noB ok
          have hsub : (sv ++ (tmps ++ ts).filter keepT).Sublist (sv ++ (tmps ++ ts)) := List.Sublist.append (List.Sublist.refl _) List.filter_sublist
          have na : NoAt (sv ++ (tmps ++ ts).filter keepT) := dats_noAt sD (noAt_keep _)
          have tin : ∀ p ∈ tmps, p ∈ sv ++ (tmps ++ ts).filter keepT := fun p hp => List.mem_append_right _ (List.mem_filter.mpr ⟨List.mem_append_left _ hp, by
            obtain ⟨d, e⟩ := hD p hp
            unfold keepT
            rw [e]⟩)
          have done : ∀ Hd3 H3, Rel0 G Hd3 (wipeD dsE vs) (sv ++ (tmps ++ ts).filter keepT) (wipe σ vs) H3 → Q (.bl bb) H3 := fun Hd3 H3 h3 =>
            fin _ _ (Rel.flat ⟨Hd3, (h1'.restore ok sD s2 h3 sh).sub' (List.sublist_append_right _ _)⟩ (flat_bl _))
          refine ⟨fun i m H => m = items.length - i ∧ i ≤ items.length ∧ ∃ dsi, Rel G (wipeD dsi vs) (sv ++ (tmps ++ ts).filter keepT) (wipe σ vs) H ∧ gxLoop c vs g fe (items.drop i) dsi = some (.ok bb dsE),
            ⟨items.length, by simp, Nat.zero_le _, ds1, ⟨Hd1, (s1.sub' hsub).wipe na nb⟩, by rw [List.drop_zero]; exact hm⟩, ?_⟩
          rintro i m H3 ⟨rfl, hil, dsi, h3, hm2⟩
          obtain ⟨j1, j2⟩ := hJ _ _ _ _ i tin h3
          cases hd : items.drop i with
          | nil =>
            have hi : items.length ≤ i := by
              rcases Nat.lt_or_ge i items.length with z | z
              · rw [List.drop_eq_getElem_cons z] at hd; cases hd
              · exact z
            rw [hd] at hm2
            have hm2 : some (Res.ok c dsi) = some (Res.ok bb dsE) := hm2
            cases hm2
            obtain ⟨Hd3, h3⟩ := h3
            exact .inl ⟨j2 hi, done _ _ h3⟩
          | cons d rr =>
            obtain ⟨e1, e2, e3⟩ := drop_get hd
            obtain ⟨go, yl⟩ := j1 d e1
            rw [hd] at hm2
            have p2 : Post ((do
                g (.dat d)
                let y ← fe
                let b ← asBool y
                if b = c then gxLoop c vs g fe rr else pure (!c) : M Bool) (wipeD dsi vs)) (fun a s => a = bb ∧ s = dsE) (fun _ _ => False) := by
              have e0 : (gxLoop c vs g fe (d :: rr) dsi) = (do
                g (.dat d)
                let y ← fe
                let b ← asBool y
                if b = c then gxLoop c vs g fe rr else pure (!c) : M Bool) (wipeD dsi vs) := rfl
              rw [← e0, hm2]
              exact ⟨rfl, rfl⟩
            have ext : ∀ {l : List D} {s : DS}, Post (gxLoop c vs g fe l s) (fun a s => a = bb ∧ s = dsE) (fun _ _ => False) → gxLoop c vs g fe l s = some (.ok bb dsE) := fun {l s} z => by
              cases hq : gxLoop c vs g fe l s with
              | none => rw [hq] at z; exact z.elim
              | some o => cases o with
                | ok a b => rw [hq] at z; obtain ⟨rfl, rfl⟩ := z; rfl
                | err c b => rw [hq] at z; exact z.elim
            refine .inr ⟨go, fun H' => ∃ dsj, Rel G (wipeD dsj vs) (sv ++ (tmps ++ ts).filter keepT) (wipe σ vs) H' ∧ gxLoop c vs g fe (items.drop (i + 1)) dsj = some (.ok bb dsE),
              fun H' ⟨dsj, k1, k2⟩ => ⟨items.length - (i + 1), by omega, rfl, e3, dsj, k1, k2⟩, fun x H4 hy => ?_⟩
            have h4 := yl x H4 hy
            refine ⟨wipeD dsi vs, _, .dat d, na, h4, lc_post (E' := PErrS G W0 _) p2 (fun _ _ z => z) |>.mono (fun _ ds4 p4 σ4 H5 kp h5 => ?_) fun _ _ z => z⟩
            have kp : wipe σ4 vs = wipe σ vs := (kp vs rfl).trans (by
              apply List.ext_getElem?
              intro j
              simp only [wipe_get, wipe_length]
              by_cases hj : j ∈ vs ∧ j < σ.length
              · rw [if_pos hj, if_pos hj]
              · rw [if_neg hj])
            refine ⟨kp, ds4, _, h5, lc_post (E' := PErr G W0 _ σ4) p4 (fun _ _ z => z) |>.mono (fun y ds6 p6 v6 H6 h6 => ?_) fun _ _ z => z⟩
            obtain ⟨b, rfl, p9⟩ := Post.asBool (r := y) p6
            obtain ⟨Hd6, h6⟩ := h6
            have w6 := h6.pop.wipe (vs := vs) na nb
            rw [kp] at w6
            refine ⟨b, rep_bool h6.top, fun e => ?_, fun e => ?_⟩
            · rw [if_pos e] at p9
              exact ⟨ds6, ⟨Hd6, w6⟩, by rw [e2]; exact ext p9⟩
            · rw [if_neg e] at p9
              obtain ⟨p7, p8⟩ := p9
              subst p8
              have : b = bb := by rw [← p7]; cases b <;> cases c <;> simp at e ⊢
              rw [this]
              exact done _ _ w6
        · exact p1.elim
  · exact p1.elim
variable {scope : Scope} {own : List (Str × Nat)} {k : Nat} {cc : Addr}
theorem de_all (hr : Room (k + 1) X.A) (hc : X.calm = true) (hgl : Gl X "all") (hm : X.mg "all" = none) (TB : TabB X.base X.mg cc P) (hP : (P, none) ∈ G.T) (hU : ∀ Q ∈ G.T, Q.1 = P → Q = (P, none)) (hcode : X.env.code = .ref cc) (hN : X.N.Nodup) (ok : GenOk X.N X.env.scope scope own) (hi : PI X tg iter (iD G W fi))
    (hg : ∀ (s : Shared) (H : Hp) (C : Addr) (cl : List (Str × Addr)) (code : Value) (it : Addr) (fp : List Addr), PG (gxX X s H (gxC elt tg iter scope gpos it (genEnv scope cl C code builtinsNs X.env)) (genEnv scope cl C code builtinsNs X.env) fp) tg (tG G W0 (some (own.map (·.2))) g))
    (hel : ∀ (s : Shared) (H : Hp) (C : Addr) (cl : List (Str × Addr)) (code : Value) (it : Addr) (fp : List Addr), PE (gxX X s H (gxC elt tg iter scope gpos it (genEnv scope cl C code builtinsNs X.env)) (genEnv scope cl C code builtinsNs X.env) fp) elt (tD G W0 fe))
    (hs : ∀ v, genFold iter X.env v = pure v := by intro _; rfl)
    (he : starEach [gxE elt tg iter scope gpos] X.env = (false, eval (gxE elt tg iter scope gpos) X.env) :: starEach [] X.env := by rfl) :
    PE X (.Call (.Name "all" p) [gxE elt tg iter scope gpos] [] pos) (tD G W (gxD true (own.map (·.2)) fi g fe)) :=
  pe_imp (pe_gxall hr hc hgl hm TB hcode hN ok hi hg hel hs he) fun _ _ _ q => gx_read _ rfl hP hU q
theorem de_any (hr : Room (k + 1) X.A) (hc : X.calm = true) (hgl : Gl X "any") (hm : X.mg "any" = none) (TB : TabB X.base X.mg cc P) (hP : (P, none) ∈ G.T) (hU : ∀ Q ∈ G.T, Q.1 = P → Q = (P, none)) (hcode : X.env.code = .ref cc) (hN : X.N.Nodup) (ok : GenOk X.N X.env.scope scope own) (hi : PI X tg iter (iD G W fi))
    (hg : ∀ (s : Shared) (H : Hp) (C : Addr) (cl : List (Str × Addr)) (code : Value) (it : Addr) (fp : List Addr), PG (gxX X s H (gxC elt tg iter scope gpos it (genEnv scope cl C code builtinsNs X.env)) (genEnv scope cl C code builtinsNs X.env) fp) tg (tG G W0 (some (own.map (·.2))) g))
    (hel : ∀ (s : Shared) (H : Hp) (C : Addr) (cl : List (Str × Addr)) (code : Value) (it : Addr) (fp : List Addr), PE (gxX X s H (gxC elt tg iter scope gpos it (genEnv scope cl C code builtinsNs X.env)) (genEnv scope cl C code builtinsNs X.env) fp) elt (tD G W0 fe))
    (hs : ∀ v, genFold iter X.env v = pure v := by intro _; rfl)
    (he : starEach [gxE elt tg iter scope gpos] X.env = (false, eval (gxE elt tg iter scope gpos) X.env) :: starEach [] X.env := by rfl) :
    PE X (.Call (.Name "any" p) [gxE elt tg iter scope gpos] [] pos) (tD G W (gxD false (own.map (·.2)) fi g fe)) :=
  pe_imp (pe_gxany hr hc hgl hm TB hcode hN ok hi hg hel hs he) fun _ _ _ q => gx_read _ rfl hP hU q
end
end Den
/-! DenP: isinstance; enumerate of a list, a tuple -/
namespace PySem
open Sem (wp)
open AutoSeq1 (wpAny_loadPart')
theorem den_meets_enumerate_newT (l : Addr) (items : Array Value) (n : Nat) (dct : Option Addr) (sl : Array (Option Value)) :
    Meets (Builtin.«enumerate.__new__» ⟨[.type "enumerate", .ref l], []⟩) (fun _ R s => s.heap.get? l = some { cls := .type "tuple", dict := dct, data := .seq items n, slots := sl } ∧
      R (.ok (.ret (.ref (s.heap.push { cls := .type "tuple_iterator", data := .fields #[.ref l, .int 0 0] }).objs.size)))
        { s with heap := (s.heap.push { cls := .type "tuple_iterator", data := .fields #[.ref l, .int 0 0] }).push { cls := .type "enumerate", data := .fields #[.none, .bool false, .ref s.heap.objs.size, rawInt 0, .none, .none] } }) :=
  .of_wp fun prog w A R s h => by
    obtain ⟨hp, g, d, tk, os⟩ := s; obtain ⟨hl, h⟩ := h
    have hsub := sub_enumerate
    have hL : Heap.IsTuple (Shared.heap ⟨hp, g, d, tk, os⟩) l items := ⟨_, hl, rfl, n, rfl⟩
    wp_walk using wpAny_loadPart' hl
    refine wpAny_stack_any fun st => wpAny_pure ?_
    split
    · rename_i c _ _ _ _ _
      cases (c == Value.type "enumerate")
      · wp_walk using wpAny_loadPart' hl, wpAny_pyIter_tuple hL
        exact ⟨_, rfl, h⟩
      · wp_walk using wpAny_loadPart' hl, wpAny_pyIter_tuple hL
        exact ⟨_, rfl, h⟩
    · wp_walk using wpAny_loadPart' hl, wpAny_pyIter_tuple hL
      exact ⟨_, rfl, h⟩
section
variable {prog : Program} {w : World} {A : Around} {E : Value → Shared → Prop} {s : Shared}
theorem den_call_enumerate_tuple {l : Addr} {items : Array Value} {Q : Value → Shared → Prop} (hL : s.heap.IsTuple l items)
    (h : ∀ h', IsEnum h' (s.heap.objs.size + 1) s.heap.objs.size 0 .none → h'.IsTupleIter s.heap.objs.size l 0 → h'.objs.size = s.heap.objs.size + 2 →
      (∀ b o, s.heap.get? b = some o → h'.get? b = some o) → Q (.ref (s.heap.objs.size + 1)) { s with heap := h' }) :
    wpAny (model prog w) A (call (.type "enumerate") [.ref l]) Q E s := by
  obtain ⟨⟨c, dct, dt, sl⟩, hl, hc, n, hd⟩ := hL
  replace hc : c = .type "tuple" := hc
  replace hd : dt = .seq items n := hd
  subst hc hd
  refine callType_new F.called_enumerate (by decide) (F.typeCall_enumerate_1 _) (F.newCall_enumerate_1 _) (fun obj => F.args_object_init_2 obj _) F.entry_enumerate_new
    (den_meets_enumerate_newT l items n dct sl) ⟨hl, ?_⟩
  have hz : (s.heap.push { cls := .type "tuple_iterator", data := .fields #[.ref l, .int 0 0] }).objs.size = s.heap.objs.size + 1 := Heap.size_push ..
  show _ ∧ _
  rw [hz]
  have he : IsEnum ((s.heap.push { cls := .type "tuple_iterator", data := .fields #[.ref l, .int 0 0] }).push
      { cls := .type "enumerate", data := .fields #[.none, .bool false, .ref s.heap.objs.size, rawInt 0, .none, .none] }) (s.heap.objs.size + 1) s.heap.objs.size 0 .none := by
    have := Heap.get?_push_size (s.heap.push { cls := .type "tuple_iterator", data := .fields #[.ref l, .int 0 0] })
      (o := { cls := .type "enumerate", data := .fields #[.none, .bool false, .ref s.heap.objs.size, rawInt 0, .none, .none] }) rfl
    rw [hz] at this; exact this
  refine ⟨⟨_, he, rfl⟩, h _ he ⟨_, Heap.get?_push_of_some _ (Heap.get?_push_size _ rfl), rfl, rfl⟩ (by rw [Heap.size_push, hz]) fun b o x => Heap.get?_push_of_some _ (Heap.get?_push_of_some _ x)⟩
theorem den_enum_end {e it l : Addr} {items : Array Value} {i : Nat} {k : Int} {old : Value} {Q : Option Value → Shared → Prop} (hh : A.handled = none)
    (he : IsEnum s.heap e it k old) (hit : s.heap.IsTupleIter it l i) (hL : s.heap.IsTuple l items) (hx : items[i]? = none)
    (hQ : ∀ h', Heap.ExtBut it s.heap h' → Q none { s with heap := h' }) : wpAny (model prog w) A (pyNext (.ref e)) Q E s := by
  have hT : s.TypeIs (.ref e) "enumerate" := ⟨_, he, rfl⟩
  unfold pyNext
  refine wpAny_bind (wpAny_attempt (wpAny_callSpecial?_slot (name := Str.ofString "__next__") hT F.slot_enumerate_next
    (wpAny_call_entry F.slot_enumerate_next hT F.entry_enumerate_next ?_ (F.args_enumerate_next_1 _))))
  show wpAny _ _ (field (.ref e) 2 >>= _) _ _ _
  refine wpAny_bind (wpAny_field he rfl (x := .ref it) rfl ?_)
  refine wpAny_bind (wpAny_nextOf_tuple_end (A := A.in1) hh hit hL hx fun h' x he' hx' => ?_)
  obtain ⟨o, ho, hc⟩ := hx'
  refine wpAny_bind (wpAny_isInstance (T := "StopIteration") (b := true) ⟨o, ho, hc⟩ isSubtype_stop ?_)
  exact wpAny_pure (hQ _ he')
end
end PySem
namespace Den
open PySem PySem.Spec PyProof.Rows L2
def Itet (K : PySem.W.Frag) (a : Addr) : It :=
  ⟨fun i H => ∃ (xs : List V) (x : V), SqT K H a xs ∧ xs[i]? = some x, fun i H v H' => ∃ T x, v = .ref T ∧ H T = none ∧ H' = upd H T (.tup [.int (i : Nat), x]) ∧ ∀ xs, SqT K H a xs → xs[i]? = some x, fun i H => ∃ xs : List V, SqT K H a xs ∧ xs.length ≤ i⟩
theorem turn_enumT {P : Program} {w : World} {K : PySem.W.Frag} {elts : List Expr} {kk : Nat} {tpos : Pos} (a e it : Addr) :
    Turn P w K (.Tuple elts kk tpos) (Itet K a) [e, it] e (fun i h => (∃ old, IsEnum h e it ((i : Nat) : Int) old) ∧ h.IsTupleIter it a i ∧ e ≠ it) where
  mem := by simp
  obj := fun i h st b hb => by
    obtain ⟨⟨old, he⟩, ⟨o, ho, hc, hd⟩, _⟩ := st
    have e' : b = e ∨ b = it := by simpa using hb
    rcases e' with z | z
    · rw [z]; exact ⟨_, he, fun v q => nomatch q⟩
    · rw [z]; exact ⟨o, ho, fun v q => by rw [hd] at q; cases q⟩
  keep := fun i h h' st k => let ⟨⟨old, he⟩, hi, hne⟩ := st; ⟨⟨old, k e (by simp) _ he⟩, hi.at fun o q => k it (by simp) o q, hne⟩
  item := by
    intro X hP hw hK hc i pins s σ H E I hf st hg
    subst hP hw hK
    obtain ⟨⟨old, he⟩, hit, hne⟩ := st
    obtain ⟨xs, x, hq, hx⟩ := hg
    obtain ⟨its, rv, p, hz⟩ := I.tuple hq
    obtain ⟨u, hu, ru⟩ := rv.get hx
    have hp : s.heap.IsTuple a its.toArray := p
    have hae : a ≠ e := fun z => by
      obtain ⟨o, ho, hc, _⟩ := hp
      rw [z, he] at ho; cases ho
      exact absurd (Value.type.inj hc) (by decide)
    have hai : a ≠ it := fun z => by
      obtain ⟨o, ho, hc, _⟩ := hp
      obtain ⟨o', ho', hc', _⟩ := hit
      rw [z, ho'] at ho; cases ho
      rw [hc] at hc'
      exact absurd (Value.type.inj hc') (by decide)
    have hel : e < s.heap.objs.size := Heap.lt_size he
    have hil : it < s.heap.objs.size := by obtain ⟨_, q, _⟩ := hit; exact Heap.lt_size q
    have hi : i < its.toArray.size := by rw [List.size_toArray]; exact (List.getElem?_eq_some_iff.mp hu).1
    refine wpAny_pyNext_enum_itemD (Draws.tuple (A := X.A.in1) (I.ok.hd hc) it a hai its.toArray) he ⟨hit, hp⟩ hi hne (by simp [hne, Ne.symm hae]) fun x' h' tk hx' ho hit' hT hsz hk => ?_
    have ex : x' = u := by
      have h1 : its.toArray[i]? = some u := by simpa using hu
      rw [hx'] at h1; exact Option.some.inj h1
    subst ex
    refine ⟨_, rfl, wpAny_letOwnedTupleGo_enum (s := { s with heap := h', toks := tk + 1 }) ho fun h'' he' sb => ?_⟩
    have hT2 : h''.get? s.heap.objs.size = some { cls := .type "tuple", data := .seq #[.int i tk, x'] } := (sb.2 _ (Nat.ne_of_gt hel)).trans hT
    have new : ObjOk X.prog X.w (upd H s.heap.objs.size (.tup [.int (i : Nat), x])) h'' s.heap.objs.size (.tup [.int (i : Nat), x]) :=
      ⟨by show 2 ≤ sizeLine; decide, [.int i tk, x'], .cons ⟨_, rfl⟩ (.cons ru .nil), ⟨_, hT2, rfl, _, rfl⟩⟩
    have I1 : Inv X pins σ (upd H s.heap.objs.size (.tup [.int (i : Nat), x])) { s with heap := h'', toks := tk + 1 } :=
      I.turnedNew (ch := [e, it]) (fun b ob hb q => (sb.2 b (fun z => hb (by simp [z]))).trans (hk b ob (fun z => hb (by simp [z])) (fun z => hb (by simp [z])) q)) hf (Nat.le_refl _) new
    refine ⟨.ref s.heap.objs.size, _, I1, rfl, ⟨_, x, rfl, I.hok.fresh (Nat.le_refl _), rfl, fun ys hy => by rw [I.tuple_inj hy hq]; exact hx⟩, ⟨⟨x', ?_⟩, hit'.1.at fun o q => (sb.2 it (Ne.symm hne)).trans q, hne⟩, fun b hb => ?_⟩
    · have e1 : ((i + 1 : Nat) : Int) = (i : Int) + 1 := by omega
      rw [e1]; exact he'
    · have hb' : b < s.heap.objs.size := by
        have e' : b = e ∨ b = it := by simpa using hb
        rcases e' with z | z
        · rw [z]; exact hel
        · rw [z]; exact hil
      rw [upd_ne (Nat.ne_of_lt hb')]
      exact (hf b hb).1
  done := by
    intro X hP hw hK hc i pins s σ H E I hf st hg
    subst hP hw hK
    obtain ⟨⟨old, he⟩, hit, hne⟩ := st
    obtain ⟨xs, hq, hx⟩ := hg
    obtain ⟨its, rv, p, hz⟩ := I.tuple hq
    have hp : s.heap.IsTuple a its.toArray := p
    have hai : a ≠ it := fun z => by
      obtain ⟨o, ho, hc, _⟩ := hp
      obtain ⟨o', ho', hc', _⟩ := hit
      rw [z, ho'] at ho; cases ho
      rw [hc] at hc'
      exact absurd (Value.type.inj hc') (by decide)
    obtain ⟨f0, f1, f2, f3, f4, f5⟩ := hf it (by simp)
    have hl := rv.length
    have hit2 : s.heap.IsTupleIter it a i := hit
    exact den_enum_end (A := X.A) (I.ok.hd hc) he hit hp (by simp; omega) fun h' eb => ⟨rfl, I.turned (t' := s.toks) (fun b o hb q => eb b o hb q) f0 f1 f3 f4 f5⟩
  self := fun A i s Q E st h => let ⟨⟨_, he⟩, _⟩ := st; wpAny_pyIter_enum he h

/-- enumerate of a list, a tuple -/
def iEnumA (K : PySem.W.Frag) (ta : TA) : TI := fun σ H R => ta σ H fun vs H1 => ∃ a xs, vs = [.ref a] ∧ ((SqL K H1 a xs ∧ R (Ite K a) H1) ∨ (SqT K H1 a xs ∧ R (Itet K a) H1))
theorem pi_enumA {X : Cx} {e : Expr} {ta : TA} {p pos tpos : Pos} {elts : List Expr} {kk : Nat} (hg : Gl X "enumerate") (hm : X.mg "enumerate" = none) (ha : PA X [e] ta) (hs : starEach [e] X.env = [(false, eval e X.env)] := by rfl) :
    PI X (.Tuple elts kk tpos) (.Call (.Name "enumerate" p) [e] [] pos) (iEnumA X.K ta) := by
  refine ⟨fun pins s σ H R I h => ?_⟩
  refine Call_ (ld_blt I hg hm boot_enumerate (PyProof.Rows.callWith_type1 (thn (ha.run pos pins s σ H _ I h) fun us s1 ⟨vs, H1, I1, r1, q1⟩ => ?_) hs rfl))
  obtain ⟨a, xs, ex, q⟩ := q1
  subst ex
  cases r1 with
  | cons r rr =>
    cases rr
    cases r
    have fp : ∀ b ∈ [s1.heap.objs.size + 1, s1.heap.objs.size], FpOk X pins H1 b := fun b hb => by
      have e' : b = s1.heap.objs.size + 1 ∨ b = s1.heap.objs.size := by simpa using hb
      have hle : s1.heap.objs.size ≤ b := by
        rcases e' with z | z
        · rw [z]; exact Nat.le_add_right _ _
        · rw [z]; exact Nat.le_refl _
      exact I1.fpOk hle (I1.hok.fresh hle)
    rcases q with ⟨hq, q⟩ | ⟨hq, q⟩
    · obtain ⟨its, rv, p', hz⟩ := I1.list hq
      refine call_enumerate_list p'.isList fun h' he hit hsz hk => wpAny_pyIter_enum he ?_
      exact ⟨s1.heap.objs.size + 1, [s1.heap.objs.size + 1, s1.heap.objs.size], _, _, H1, rfl, I1.kept (t' := s1.toks) hk, turn_enum a (s1.heap.objs.size + 1) s1.heap.objs.size, ⟨⟨.none, he⟩, hit, Nat.succ_ne_self _⟩, fp, q⟩
    · obtain ⟨its, rv, p', hz⟩ := I1.tuple hq
      refine den_call_enumerate_tuple (show s1.heap.IsTuple a its.toArray from p') fun h' he hit hsz hk => wpAny_pyIter_enum he ?_
      exact ⟨s1.heap.objs.size + 1, [s1.heap.objs.size + 1, s1.heap.objs.size], _, _, H1, rfl, I1.kept (t' := s1.toks) hk, turn_enumT a (s1.heap.objs.size + 1) s1.heap.objs.size, ⟨⟨.none, he⟩, hit, Nat.succ_ne_self _⟩, fp, q⟩
def enumL : Nat → List D → List D
  | _, [] => []
  | i, d :: r => .tuple [.int i, d] :: enumL (i + 1) r
theorem enumL_get : ∀ {es : List D} {i k : Nat} {d : D}, (enumL k es)[i]? = some d → ∃ e, es[i]? = some e ∧ d = .tuple [.int ((k + i : Nat) : Int), e]
  | [], i, k, d, h => by simp [enumL] at h
  | e :: r, 0, k, d, h => by simp [enumL] at h; exact ⟨e, rfl, by rw [← h]; rfl⟩
  | e :: r, i + 1, k, d, h => by
    obtain ⟨x, h1, h2⟩ := enumL_get (es := r) (i := i) (k := k + 1) (by simpa [enumL] using h)
    exact ⟨x, by simpa using h1, by rw [h2, show k + 1 + i = k + (i + 1) by omega]⟩
theorem enumL_length : ∀ (es : List D) (k : Nat), (enumL k es).length = es.length
  | [], _ => rfl
  | _ :: r, k => by simp [enumL, enumL_length r (k + 1)]
theorem M.assoc {α β γ : Type} (m : M α) (k : α → M β) (l : β → M γ) : ((m >>= k) >>= l) = (m >>= fun a => k a >>= l) := by
  funext s
  show M.bind (M.bind m k) l s = M.bind m (fun a => M.bind (k a) l) s
  unfold M.bind
  cases m s with
  | none => rfl
  | some r => cases r <;> rfl
section
variable {X : Cx} {G : Gh} {W : L2.WX} {e : Expr} {pos tpos p : Pos} {f : M R} {fr : M (List R)}
/-- the items of a list, a tuple, with their places -/
def enumOf (rs : List R) : M (List D) := do
  let r ← one rs
  let es ← itemsOf r
  pure (enumL 0 es)
theorem di_enum {elts : List Expr} {kk : Nat} (hK : X.K = G.K) (hg : Gl X "enumerate") (hm : X.mg "enumerate" = none) (ha : PA X [e] (tA G W fr)) (hs : starEach [e] X.env = [(false, eval e X.env)] := by rfl) :
    PI X (.Tuple elts kk tpos) (.Call (.Name "enumerate" p) [e] [] pos) (iD G W (do let rs ← fr; enumOf rs)) := pi_imp (pi_enumA hg hm ha hs) fun σ H Rr q => by
  obtain ⟨ds, ts, h, p⟩ := q
  refine tA.go h (Post.bind.mp p) fun rs ds1 vs H1 p1 hl h1 => ?_
  obtain ⟨r, v, rfl, rfl, p1⟩ := one_of hl p1
  have h1 : Rel G ds1 ((r, v) :: ts) σ H1 := h1
  have p1 : Post ((do let d ← frz r; (do let es ← (match seqOf d with | some es => pure es | none => fail : M (List D)); pure (enumL 0 es) : M (List D))) ds1) (fun items ds' => ∀ (J : It) (tmps : List (R × V)) (H' : Hp), JOk G J items tmps → Dats tmps → Rel G ds' (tmps ++ ts) σ H' → Rr J H') (PErr G W ts σ) := by
    have e0 : (do let es ← itemsOf r; pure (enumL 0 es) : M (List D)) = (do let d ← frz r; (do let es ← (match seqOf d with | some es => pure es | none => fail : M (List D)); pure (enumL 0 es) : M (List D))) := M.assoc _ _ _
    exact (congrFun e0 ds1) ▸ p1
  obtain ⟨d, ds2, h2, p2⟩ := Rel.frz1 h1 p1
  cases hs : seqOf d with
  | none => simp only [hs] at p2; exact (Post.bind.mp p2).elim
  | some es =>
    simp only [hs] at p2
    have p2 := Post.pure.mp (Post.bind.mp p2)
    obtain ⟨Hd, h2'⟩ := id h2
    obtain ⟨a, xs, e1, e2, e3⟩ := h2'.seq (r := .dat d) h2'.top rfl hs
    have e1 : v = .ref a := e1
    have dd : Dats [((.dat d, v) : R × V)] := fun p hp => ⟨d, by rw [List.mem_singleton.mp hp]⟩
    have key : ∀ (ds' : DS) (ts' : List (R × V)) (σ' : L2.St) (H' : Hp), (∀ p ∈ [((.dat d, v) : R × V)], p ∈ ts') → ∀ Hd', Rel0 G Hd' ds' ts' σ' H' → ∃ ys, RepAll G.K Hd' ys es ∧ (((∃ l, d = .list l) ∨ (∃ l, d = scriptD l)) ∧ SqL G.K H' a ys ∨ (∃ l, d = .tuple l) ∧ SqT G.K H' a ys) := fun ds' ts' σ' H' hm Hd' h' => by
      have rp : Rep G.K Hd' v d := h'.tmp (.dat d, v) (hm _ List.mem_cons_self)
      unfold seqOf at hs
      split at hs
      · cases hs
        cases rp with | lst s q => cases e1; exact ⟨_, q, .inl ⟨.inl ⟨_, rfl⟩, SqL.of (h'.sub _ _ s)⟩⟩
      · cases hs
        cases rp with | tup s q => cases e1; exact ⟨_, q, .inr ⟨⟨_, rfl⟩, Same.seqT h'.sub s⟩⟩
      · cases hs
        obtain ⟨a', ys, e1', e2', e3'⟩ := scr_of rp
        rw [e1] at e1'; cases e1'
        exact ⟨ys, e3', .inl ⟨.inr ⟨_, rfl⟩, Same.seq h'.sub e2'⟩⟩
      · cases hs
    have hrel : Rel G ds2 ([(.dat d, v)] ++ ts) σ H1 := h2
    have lay : ∀ {ds' : DS} {ts' : List (R × V)} {σ' : L2.St} {H' Hd' : Hp} {T : Addr} {x : V} {i : Nat} {u : D}, Rel0 G Hd' ds' ts' σ' H' → H' T = none → Rep G.K Hd' x u → Rel G ds' ((.dat (.tuple [.int ((0 + i : Nat) : Int), u]), .ref T) :: ts') σ' (upd H' T (.tup [.int (i : Nat), x])) := fun {ds' ts' σ' H' Hd' T x i u} h' nT ru =>
      Rel.newT ⟨Hd', h', .cons (by rw [Nat.zero_add]; exact .int _) (.cons ru .nil)⟩ nT
    obtain ⟨ys0, _, w⟩ := key ds2 _ σ H1 (fun p hp => by rw [List.mem_singleton.mp hp]; exact List.mem_cons_self) Hd h2'
    rcases w with ⟨hd, w⟩ | ⟨hd, w⟩
    · refine ⟨a, ys0, by rw [e1], .inl ⟨hK ▸ w, p2 _ [(.dat d, v)] H1 (fun ds' ts' σ' H' i hm h' => ?_) dd hrel⟩⟩
      obtain ⟨Hd', h'⟩ := h'
      obtain ⟨ys, r1, r2⟩ := key ds' ts' σ' H' hm Hd' h'
      have r2 : SqL G.K H' a ys := by
        rcases r2 with ⟨_, r2⟩ | ⟨⟨l, hl⟩, _⟩
        · exact r2
        · rcases hd with ⟨m, hm'⟩ | ⟨m, hm'⟩ <;> rw [hl] at hm' <;> cases hm'
      rw [hK]
      refine ⟨fun x hx => ?_, fun hi => ⟨ys, r2, by rw [r1.length]; rw [enumL_length] at hi; exact hi⟩⟩
      obtain ⟨u, hu, rfl⟩ := enumL_get hx
      obtain ⟨y, hy, ry⟩ := r1.get hu
      refine ⟨⟨ys, y, r2, hy⟩, fun z H'' hz => ?_⟩
      obtain ⟨T, x', rfl, nT, rfl, hx'⟩ := hz
      have := hx' ys r2
      rw [hy] at this; cases this
      exact lay h' nT ry
    · refine ⟨a, ys0, by rw [e1], .inr ⟨hK ▸ w, p2 _ [(.dat d, v)] H1 (fun ds' ts' σ' H' i hm h' => ?_) dd hrel⟩⟩
      obtain ⟨Hd', h'⟩ := h'
      obtain ⟨ys, r1, r2⟩ := key ds' ts' σ' H' hm Hd' h'
      have r2 : SqT G.K H' a ys := by
        rcases r2 with ⟨z, _⟩ | ⟨_, r2⟩
        · obtain ⟨l, hl⟩ := hd
          rcases z with ⟨m, hm'⟩ | ⟨m, hm'⟩ <;> rw [hl] at hm' <;> cases hm'
        · exact r2
      rw [hK]
      refine ⟨fun x hx => ?_, fun hi => ⟨ys, r2, by rw [r1.length]; rw [enumL_length] at hi; exact hi⟩⟩
      obtain ⟨u, hu, rfl⟩ := enumL_get hx
      obtain ⟨y, hy, ry⟩ := r1.get hu
      refine ⟨⟨ys, y, r2, hy⟩, fun z H'' hz => ?_⟩
      obtain ⟨T, x', rfl, nT, rfl, hx'⟩ := hz
      have := hx' ys r2
      rw [hy] at this; cases this
      exact lay h' nT ry
end
end Den
/-! DenQ: max(xs, default=d), at the machine -/
namespace PySem
open Sem (wp)
section
variable {prog : Program} {w : World} {A : Around} {R : Result → Shared → Prop} {I : Addr} {fp wr : List Addr} {n : Nat} {P : Nat → Value → Prop} {St : Nat → Heap → Prop}
theorem den_maxd_loop {kw : List (Str × Value)} (W : Walks prog w A.in1 I fp wr n P St) (bt : Nat → Nat → Bool) (hcmp : CmpOf prog w A.in1 .Gt P bt) (S : Addr) (hSf : S ∉ fp) :
    ∀ (k j : Nat) (s : Shared) (vb : Value) (c : Nat), n - (j + 1) = k → j + 1 ≤ n → St (j + 1) s.heap → P (argBest bt j) vb →
    s.heap.get? S = some { cls := .type "list", dict := none, data := .seq #[vb, vb] c, slots := #[] } →
    (∀ v h' tk, P (argBest bt (n - 1)) v → (∀ b o, b ∉ wr → b ≠ S → s.heap.get? b = some o → h'.get? b = some o) → R (.ok (.ret v)) { s with heap := h', toks := tk }) →
    codeAny (model prog w) A (.builtin "max.loop" ⟨[.ref I, .none, .ref S], kw⟩) R s := by
  have hSw : S ∉ wr := fun h => hSf (W.sub _ h)
  have hname : (toString "max" ++ toString ".loop" : String) = "max.loop" := by decide
  intro k
  induction k with
  | zero =>
    intro j s vb c hk hj hst hPb hS hR
    have hin : j + 1 = n := by omega
    refine codeAny_builtin F.entry_max_loop ?_
    rw [Around.under_plainId F.plain_max_loop _]
    show wpAny _ A.in1 (seqItems? (.ref S) >>= _) _ _ s
    refine wpAny_bind (wpAny_seqItems hS rfl ?_)
    show wpAny _ A.in1 (tryCatch (pyNext (.ref I)) _ >>= _) _ _ s
    refine wpAny_bind (wpAny_tryCatch (W.done s _ _ (hin ▸ hst) fun h' tk hk' => ?_))
    have hS' := hk' S _ hSw hS
    show wpAny _ A.in1 (updateSeq S (fun _ => #[]) >>= _) _ _ _
    refine wpAny_bind ?_
    refine wpAny_updateSeq hS' rfl (wpAny_bind (wpAny_letGo (wpAny_pure ?_)))
    refine hR vb _ tk (by rw [← hin]; exact hPb) fun b o hbw hbS e => (Heap.get?_update_other _ _ (Ne.symm hbS)).trans (hk' b o hbw e)
  | succ k ih =>
    intro j s vb c hk hj hst hPb hS hR
    have hlt : j + 1 < n := by omega
    refine codeAny_builtin F.entry_max_loop ?_
    rw [Around.under_plainId F.plain_max_loop _]
    show wpAny _ A.in1 (seqItems? (.ref S) >>= _) _ _ s
    refine wpAny_bind (wpAny_seqItems hS rfl ?_)
    show wpAny _ A.in1 (tryCatch (pyNext (.ref I)) _ >>= _) _ _ s
    refine wpAny_bind (wpAny_tryCatch (W.item (j + 1) s _ _ hlt hst fun v h' tk hP hst' hk' => ?_))
    have hS' := hk' S _ hSw hS
    show wpAny _ A.in1 (tryCatch (holding [v, v] (richCompare .Gt v vb >>= _)) _ >>= _) _ _ _
    refine wpAny_bind (wpAny_tryCatch (wpAny_holding (wpAny_bind (hcmp (j + 1) (argBest bt j) v vb _ _ _ hP hPb ?_))))
    refine wpAny_bind (wpAny_holding (wpAny_truthy_bool ?_))
    refine wpAny_bind (wpAny_letGo (wpAny_pure ?_))
    cases hb : bt (j + 1) (argBest bt j) with
    | true =>
      simp only [if_true]
      refine wpAny_bind ?_
      refine wpAny_updateSeq hS' rfl (wpAny_bind (wpAny_letGo ?_))
      rw [hname]
      refine wpAny_pure ⟨plainId_quiet F.plain_max_loop _, ih (j + 1) _ v _ (by omega) hlt (W.frame _ _ _ hst' fun b hbf o e => ?_) (by simp only [argBest, hb, if_true]; exact hP) (Heap.get?_update_self _ hS' rfl)
        fun v' h'' tk'' hP' hk'' => ?_⟩
      · exact (Heap.get?_update_other _ _ (fun h : S = b => hSf (by rw [h]; exact hbf))).trans e
      · exact hR v' h'' tk'' hP' fun b o hbw hbS e => hk'' b o hbw hbS ((Heap.get?_update_other _ _ (Ne.symm hbS)).trans (hk' b o hbw e))
    | false =>
      simp only [Bool.false_eq_true, if_false]
      refine wpAny_bind (wpAny_letGo ?_)
      rw [hname]
      refine wpAny_pure ⟨plainId_quiet F.plain_max_loop _, ih (j + 1) _ vb c (by omega) hlt hst' (by simp only [argBest, hb, Bool.false_eq_true, if_false]; exact hPb) hS' fun v' h'' tk'' hP' hk'' => ?_⟩
      exact hR v' h'' tk'' hP' fun b o hbw hbS e => hk'' b o hbw hbS (hk' b o hbw e)
theorem den_maxd_first {d : Value} (W : Walks prog w A.in1 I fp wr n P St) (bt : Nat → Nat → Bool) (hcmp : CmpOf prog w A.in1 .Gt P bt) (S : Addr) (hSf : S ∉ fp) {s : Shared} {c : Nat} (hst : St 0 s.heap)
    (hS : s.heap.get? S = some { cls := .type "list", dict := none, data := .seq #[] c, slots := #[] })
    (hR : ∀ v h' tk, (0 < n → P (argBest bt (n - 1)) v) → (n = 0 → v = d) → (∀ b o, b ∉ wr → b ≠ S → s.heap.get? b = some o → h'.get? b = some o) → R (.ok (.ret v)) { s with heap := h', toks := tk }) :
    codeAny (model prog w) A (.builtin "max.loop" ⟨[.ref I, .none, .ref S], [("default", d)]⟩) R s := by
  have hSw : S ∉ wr := fun h => hSf (W.sub _ h)
  have hname : (toString "max" ++ toString ".loop" : String) = "max.loop" := by decide
  refine codeAny_builtin F.entry_max_loop ?_
  rw [Around.under_plainId F.plain_max_loop _]
  show wpAny _ A.in1 (seqItems? (.ref S) >>= _) _ _ s
  refine wpAny_bind (wpAny_seqItems hS rfl ?_)
  show wpAny _ A.in1 (tryCatch (pyNext (.ref I)) _ >>= _) _ _ s
  by_cases hn : 0 < n
  · refine wpAny_bind (wpAny_tryCatch (W.item 0 s _ _ hn hst fun v h' tk hP hst' hk' => ?_))
    have hS' := hk' S _ hSw hS
    show wpAny _ A.in1 (updateSeq S (fun _ => #[v, v]) >>= _) _ _ _
    refine wpAny_bind ?_
    refine wpAny_updateSeq hS' rfl ?_
    rw [hname]
    refine wpAny_pure ⟨plainId_quiet F.plain_max_loop _, den_maxd_loop W bt hcmp S hSf _ 0 _ v _ rfl hn (W.frame _ _ _ hst' fun b hbf o e => ?_) hP (Heap.get?_update_self _ hS' rfl) fun v' h'' tk'' hP' hk'' => ?_⟩
    · exact (Heap.get?_update_other _ _ (fun h : S = b => hSf (by rw [h]; exact hbf))).trans e
    · exact hR v' h'' tk'' (fun _ => hP') (fun e => by omega) fun b o hbw hbS e => hk'' b o hbw hbS ((Heap.get?_update_other _ _ (Ne.symm hbS)).trans (hk' b o hbw e))
  · have h0 : n = 0 := by omega
    subst h0
    refine wpAny_bind (wpAny_tryCatch (W.done s _ _ hst fun h' tk hk' => ?_))
    refine wpAny_bind (wpAny_rule (wpAny_pure ?_))
    exact hR d h' tk (fun z => absurd z (by omega)) (fun _ => rfl) fun b o hbw _ e => hk' b o hbw e
end
section
variable {prog : Program} {w : World} {A : Around} {E : Value → Shared → Prop} {s : Shared}
theorem den_args_maxd (a d : Value) : argsOk "max" ⟨[a], [(Str.ofString "default", d)]⟩ := by unfold argsOk; kernel_rfl
theorem den_call_tree_kw {id : String} {b : Builtin} {args : List Value} {kw : List (Str × Value)} {Q : Value → Shared → Prop} (hk : builtinKind id = none) (hp : plainId id = true)
    (hb : entryFor table id = some b) (ha : argsOk id ⟨args, kw⟩)
    (hc : wpAny (model prog w) A.in1 (b ⟨args, kw⟩) (fun fin s' => match fin with
      | .done f => (match (Except.ok f : Result) with | .ok (.ret v) => Q v s' | .ok _ => False | .error e => E e s')
      | .again c' => c'.quiet = true ∧ codeAny (model prog w) A c' (fun r s' => match r with | .ok (.ret v) => Q v s' | .ok _ => False | .error e => E e s') s') E s) :
    wpAny (model prog w) A (call (.builtin id) args kw) Q E s := by
  refine wpAny_call (codeAny_call_builtin hp hb ?_)
  simp only [checkBuiltinCall, hk]
  cases hsig : Manifest.signature? id with
  | none => exact wpAny_pure hc
  | some sig =>
    simp only [argsOk, hsig] at ha
    have h2 : Bind.checkArgs id sig ⟨args, kw⟩ = pure () := ha
    show wpAny _ A.in1 (Bind.checkArgs id sig ⟨args, kw⟩) _ _ s
    rw [h2]; exact wpAny_pure hc
theorem den_call_maxd {l : Addr} {d : Value} {xs : Array (Int × Tok)} {Q : Value → Shared → Prop} (hh : A.handled = none) (hl : s.heap.IsList l (intItems xs))
    (h : ∀ v h' tk, (0 < xs.size → (intItems xs)[argBest (fun i j => decide (numAt xs i > numAt xs j)) (xs.size - 1)]? = some v) → (xs.size = 0 → v = d) → (∀ b o, s.heap.get? b = some o → h'.get? b = some o) → Q v { s with heap := h', toks := tk }) :
    wpAny (model prog w) A (call (.builtin "max") [.ref l] [(Str.ofString "default", d)]) Q E s := by
  have hname : (toString "max" ++ toString ".loop" : String) = "max.loop" := by decide
  refine den_call_tree_kw F.kind_max F.plain_max F.entry_max (den_args_maxd _ _) ?_
  show wpAny _ A.in1 (Builtin.Builtins.bindParams "max" ["key", "default"] 0 ⟨[], [(Str.ofString "default", d)]⟩ >>= _) _ _ s
  refine wpAny_bind (wpAny_of_eq (show Builtin.Builtins.bindParams "max" ["key", "default"] 0 ⟨[], [(Str.ofString "default", d)]⟩ = pure [none, some d] from by kernel_rfl) ?_)
  refine wpAny_bind (wpAny_pure ?_)
  refine wpAny_bind (iter_intList hl fun s₂ e st hfp hlI => ?_)
  subst e
  generalize hs2 : ({ s with heap := s.heap.push { cls := .type "list_iterator", data := .fields #[.ref l, .int 0 0] } } : Shared) = s₂ at st hfp ⊢
  have h2 : s₂.heap = s.heap.push { cls := .type "list_iterator", data := .fields #[.ref l, .int 0 0] } := by rw [← hs2]
  have W := Walks.list (prog := prog) (w := w) (A := A.in1) hh s.heap.objs.size l hlI (intItems xs)
  refine wpAny_bind (wpAny_newObj_type ?_)
  have hSf : s₂.heap.objs.size ∉ [s.heap.objs.size, l] := fun hm => Nat.lt_irrefl _ (hfp _ hm)
  rw [hname]
  have hn : (intItems xs).size = xs.size := by simp [intItems]
  refine wpAny_pure ⟨plainId_quiet F.plain_max_loop _, den_maxd_first (A := A) (d := d) (s := { s₂ with heap := s₂.heap.push { cls := .type "list", data := .seq #[] } }) W _ (CmpOf.ints_gt (numAt xs) (fun _ _ => intItems_at)) s₂.heap.objs.size hSf (W.frame _ _ _ st fun b _ o e => Heap.get?_push_of_some _ e) (Heap.get?_push_size _ rfl) fun v h' tk hP h0 hk => ?_⟩
  rw [hn] at hP h0
  have z := h v h' tk hP h0 fun b o e => hk b o (by simpa using Nat.ne_of_lt (Heap.lt_size e)) (Nat.ne_of_lt (Nat.lt_of_lt_of_le (Heap.lt_size e) (by rw [h2, Heap.size_push]; exact Nat.le_succ _))) (Heap.get?_push_of_some _ (show s₂.heap.get? b = some o by rw [h2]; exact Heap.get?_push_of_some _ e))
  rw [← hs2]
  exact z
end
end PySem
namespace Den
open PySem PySem.Spec PyProof.Rows L2
/-- max(xs, default=d), xs a list of whole numbers -/
def rMaxDef (K : PySem.W.Frag) : List V → List V → Hp → VK → Prop := fun xs zs H Q => ∃ (a : Addr) (ns : List Int) (d : Int), xs = [V.ref a] ∧ zs = [V.int d] ∧ SqL K H a (ns.map V.int) ∧ (ns = [] → Q (.int d) H) ∧ ∀ m, m ∈ ns → (∀ y, y ∈ ns → y ≤ m) → Q (.int m) H
theorem cr_maxDef {X : Cx} (hc : X.calm = true) : CallRK X (.builtin "max") [Str.ofString "default"] (rMaxDef X.K) := by
  intro pins s σ H vs zs us ws Q I r rz h
  obtain ⟨a, ns, d, rfl, rfl, hs, q0, q1⟩ := h
  obtain ⟨its, rv, hl, _⟩ := I.list hs
  rw [Vals.ref1 r]
  obtain ⟨w1, rfl, t, rfl⟩ := vals1 rz
  have hl := hl.isList
  have hi := rv.ints
  obtain ⟨xs, e⟩ := hi.allInts.items
  have hn : numsOf (intItems xs).toList = ns := by rw [← e]; exact hi.numsOf
  rw [nums_intItems] at hn
  subst hn
  rw [e] at hl
  refine PySem.den_call_maxd (I.ok.hd hc) hl fun v h' tk hv h0 hk => ?_
  by_cases hz : 0 < xs.size
  · obtain ⟨t, rfl⟩ := intItems_at (hv hz)
    obtain ⟨h1, h2⟩ := argBest_gt (numAt xs) (xs.size - 1)
    refine ⟨.int _, H, I.kept hk, ⟨_, rfl⟩, q1 _ ?_ fun a ha => ?_⟩
    · rw [numAt_eq]; exact PySem.getD_mem (by rw [List.length_map, Array.length_toList]; omega)
    · obtain ⟨j, hj, rfl⟩ := mem_getD ha
      rw [List.length_map, Array.length_toList] at hj
      rw [← numAt_eq]; exact h2 j (by omega)
  · have hz : xs.size = 0 := by omega
    rw [h0 hz]
    refine ⟨.int d, H, I.kept hk, ⟨_, rfl⟩, q0 ?_⟩
    apply List.eq_nil_of_length_eq_zero
    rw [List.length_map, Array.length_toList, hz]
end Den
/-! DenR: sorted of a list, a tuple of whole numbers, of pairs of them -/
namespace Den
def leI (a b : Int) : Bool := decide (a ≤ b)
def leP (p q : Int × Int) : Bool := decide (p.1 < q.1 ∨ (p.1 = q.1 ∧ p.2 ≤ q.2))
def sortI (l : List Int) : List Int := l.mergeSort leI
def sortP (l : List (Int × Int)) : List (Int × Int) := l.mergeSort leP
theorem sortI_perm (l : List Int) : (sortI l).Perm l := List.mergeSort_perm _ _
theorem sortP_perm (l : List (Int × Int)) : (sortP l).Perm l := List.mergeSort_perm _ _
theorem sortI_sorted (l : List Int) : (sortI l).Pairwise (· ≤ ·) := by
  have := List.pairwise_mergeSort (le := leI) (fun a b c h1 h2 => by simp [leI] at *; omega) (fun a b => by simp [leI]; omega) l
  exact this.imp fun h => by simpa [leI] using h
theorem sortP_sorted (l : List (Int × Int)) : (sortP l).Pairwise (fun p q => p.1 < q.1 ∨ (p.1 = q.1 ∧ p.2 ≤ q.2)) := by
  have := List.pairwise_mergeSort (le := leP) (fun a b c h1 h2 => by simp only [leP, decide_eq_true_eq] at *; omega) (fun a b => by simp only [leP, Bool.or_eq_true, decide_eq_true_eq]; omega) l
  exact this.imp fun h => by simpa [leP] using h
theorem sortI_uniq {l m : List Int} (h : m.Perm l) (s : m.Pairwise (· ≤ ·)) : m = sortI l :=
  (h.trans (sortI_perm l).symm).eq_of_pairwise (fun a b _ _ h1 h2 => Int.le_antisymm h1 h2) s (sortI_sorted l)
theorem sortP_uniq {l m : List (Int × Int)} (h : m.Perm l) (s : m.Pairwise (fun p q => p.1 < q.1 ∨ (p.1 = q.1 ∧ p.2 ≤ q.2))) : m = sortP l :=
  (h.trans (sortP_perm l).symm).eq_of_pairwise (fun a b _ _ h1 h2 => Prod.ext (by omega) (by omega)) s (sortP_sorted l)
end Den
namespace SrtO
open PySem PySem.Spec PyProof.Rows L2
section
variable {prog : Program} {w : World} {A : Around} {E : Value → Shared → Prop} {s : Shared}
theorem den_sorted_ord {l : Addr} {vs : List Value} {T : String} {o : Obj} {n : Nat} {ltv : Value → Value → Bool} {Q : Value → Shared → Prop} (hT : T = "list" ∨ T = "tuple") (ho : s.heap.get? l = some o) (hc : o.cls = .type T) (hd : o.data = .seq vs.toArray n) (O : Swo ltv) (hz : vs.length ≤ sizeLine)
    (hS : 2 ≤ vs.length → ∀ (h₁ : Heap) (a : Addr), h₁.get? a = some (seqObj "list" vs.toArray 0) → (∀ b o, s.heap.get? b = some o → b ≠ a ∧ h₁.get? b = some o) → SortableO prog w A.in1.in1 { s with heap := h₁ } a vs ltv)
    (h : ∀ (out : List Value) (h1 h' : Heap), Srtd ltv out → Stb ltv out vs → (∀ b o, s.heap.get? b = some o → h1.get? b = some o) → (∀ b o, h1.get? b = some o → h'.get? b = some o) → (∃ n, h'.get? h1.objs.size = some (seqObj "list" out.toArray n)) → Q (.ref h1.objs.size) { s with heap := h' }) :
    wpAny (model prog w) A (call (.builtin "sorted") [.ref l]) Q E s := by
  refine Calls.call_function_entry kind_sorted plain_sorted entry_sorted (args_sorted1 _) ?_
  unfold Builtin.«sorted»
  refine wpAny_bind (m := checkCount "sorted" 1 1 _) (wpAny_pure ?_)
  refine wpAny_bind (wpAny_collect_seq l hT ho hc hd (fun h1 k1 => ?_) (by rw [List.size_toArray]; exact hz))
  have ev : vs.toArray.toList = vs := by simp
  rw [ev]
  refine wpAny_bind (wpAny_newList ?_ hz)
  have hoL : (h1.push (seqObj "list" vs.toArray 0)).get? h1.objs.size = some (seqObj "list" vs.toArray 0) := Heap.get?_push_size _ rfl
  have keep : ∀ b o, s.heap.get? b = some o → b ≠ h1.objs.size ∧ (h1.push (seqObj "list" vs.toArray 0)).get? b = some o := fun b o q =>
    ⟨Nat.ne_of_lt (Heap.lt_size (k1 b o q)), Heap.get?_push_of_some _ (k1 b o q)⟩
  show wpAny _ _ _ _ _ { s with heap := h1.push (seqObj "list" vs.toArray 0) }
  refine wpAny_bind (wpAny_holding (wpAny_call_entry slot_list_sort ⟨_, hoL, rfl⟩ entry_list_sort (list_sort_ord O hoL hz (fun h2 => hS h2 _ _ hoL keep) fun out hs hb => ⟨_, rfl, ?_⟩) (args_list_sort _)))
  refine wpAny_pure ⟨_, rfl, h out h1 _ hs hb k1 (fun b o e => ?_) (sortedHeap_at hoL)⟩
  have hlt : b < h1.objs.size := Heap.lt_size e
  rw [sortedHeap_old (Nat.ne_of_lt hlt) (by rw [Heap.size_push]; exact Nat.lt_succ_of_lt hlt)]
  exact Heap.get?_push_of_some _ e
end
end SrtO
namespace Den
open PySem PySem.Spec PyProof.Rows L2
def isPr (K : PySem.W.Frag) (H : Hp) (x : V) (p : Int × Int) : Prop := ∃ t, x = V.ref t ∧ SqT K H t [.int p.1, .int p.2]
def rSortedA (K : PySem.W.Frag) : List V → Hp → VK → Prop := fun vs H Q => ∃ (a : Addr) (xs : List V), vs = [.ref a] ∧ (SqL K H a xs ∨ SqT K H a xs) ∧
  ((∃ ns : List Int, xs = ns.map V.int ∧ ∀ p, H p = none → Q (.ref p) (upd H p (.lst ((sortI ns).map V.int)))) ∨
   (∃ ps : List (Int × Int), xs.length = ps.length ∧ (∀ z ∈ xs.zip ps, isPr K H z.1 z.2) ∧ ∀ (zs : List (V × (Int × Int))) (p : Addr), zs.Perm (xs.zip ps) → zs.map (·.2) = sortP ps → H p = none → Q (.ref p) (upd H p (.lst (zs.map (·.1))))))
open Classical in
noncomputable def prF (K : PySem.W.Frag) (H : Hp) : Value → Int × Int
  | .ref t => if h : ∃ p : Int × Int, SqT K H t [.int p.1, .int p.2] then h.choose else (0, 0)
  | _ => (0, 0)
theorem cr_sortedA {X : Cx} : CallR X (.builtin "sorted") (rSortedA X.K) := by
  intro pins s σ H vs us Q I r h
  obtain ⟨a, xs, rfl, hs, h⟩ := h
  rw [Vals.ref1 r]
  have src : ∃ (its : List Value) (T : String) (o : Obj) (n : Nat), Vals xs its ∧ xs.length ≤ sizeLine ∧ (T = "list" ∨ T = "tuple") ∧ s.heap.get? a = some o ∧ o.cls = .type T ∧ o.data = .seq its.toArray n := by
    rcases hs with hs | hs
    · obtain ⟨its, rv, hl, hz⟩ := I.list hs
      obtain ⟨o, ho, hc, n, hd⟩ := hl.isList
      exact ⟨its, "list", o, n, rv, hz, .inl rfl, ho, hc, hd⟩
    · obtain ⟨its, rv, hl, hz⟩ := I.tuple hs
      obtain ⟨o, ho, hc, n, hd⟩ := (show s.heap.IsTuple a its.toArray from hl)
      exact ⟨its, "tuple", o, n, rv, hz, .inr rfl, ho, hc, hd⟩
  obtain ⟨its, T, o, n, rv, hz, hT, ho, hc, hd⟩ := src
  have hz' : its.length ≤ sizeLine := by rw [← rv.length]; exact hz
  rcases h with ⟨ns, rfl, q⟩ | ⟨ps, hlen, hp, q⟩
  · have hi := rv.ints
    refine SrtO.den_sorted_ord hT ho hc hd SrtO.swo_int hz' (fun h2 _ _ _ _ => SrtO.ints_sortable hi h2) fun out h1 h' s1 s2 k1 k2 ⟨ep, he⟩ => ?_
    obtain ⟨z1, z2, z3⟩ := SrtO.ints_out hi s1 s2
    have I1 : Inv X pins σ H { s with heap := h1 } := I.kept (t' := s.toks) k1
    have e1 : out.map SrtO.iv = sortI ns := sortI_uniq z2 z3
    have hl2 : ((sortI ns).map V.int).length ≤ sizeLine := by
      rw [List.length_map, (sortI_perm ns).length_eq]
      simpa using hz
    exact ⟨.ref h1.objs.size, upd H h1.objs.size (.lst ((sortI ns).map V.int)), I1.laid (t' := s.toks) k2 (Nat.le_refl _) ⟨hl2, out, ep, by rw [← e1]; exact vals_of_ints z1, he⟩, rfl, q _ (I1.hok.fresh (Nat.le_refl _))⟩
  · obtain ⟨b1, b2⟩ := refs_back rv fun x m => by
      obtain ⟨i, hi, e⟩ := List.getElem_of_mem m
      have hz2 : (x, ps[i]'(by omega)) ∈ xs.zip ps := List.mem_of_getElem? (i := i) (by rw [List.getElem?_zip_eq_some]; exact ⟨by rw [List.getElem?_eq_getElem hi, e], List.getElem?_eq_getElem (by omega)⟩)
      obtain ⟨t, e2, _⟩ := hp _ hz2
      exact ⟨t, e2⟩
    have key : ∀ (t : Addr) (p : Int × Int), SqT X.K H t [.int p.1, .int p.2] → prF X.K H (.ref t) = p := fun t p hq => by
      have hex : ∃ p : Int × Int, SqT X.K H t [.int p.1, .int p.2] := ⟨p, hq⟩
      simp only [prF, dif_pos hex]
      have := I.tuple_inj hex.choose_spec hq
      simp only [List.cons.injEq, V.int.injEq, and_true] at this
      exact Prod.ext this.1 this.2
    have zipE : its.map (fun u => (backV u, prF X.K H u)) = xs.zip ps := by
      apply List.ext_getElem?
      intro i
      have hl1 : xs.length = its.length := rv.length
      by_cases hi : i < its.length
      · have hx : i < xs.length := by omega
        have hps : i < ps.length := by omega
        have hm : (xs[i], ps[i]) ∈ xs.zip ps := List.mem_of_getElem? (i := i) (by rw [List.getElem?_zip_eq_some]; exact ⟨List.getElem?_eq_getElem hx, List.getElem?_eq_getElem hps⟩)
        obtain ⟨t, e2, hq⟩ := hp _ hm
        obtain ⟨t', e3⟩ := b2 its[i] (List.getElem_mem hi)
        have e4 : xs[i] = backV its[i] := by
          have : xs[i]? = (its.map backV)[i]? := by rw [← b1]
          rw [List.getElem?_eq_getElem hx, List.getElem?_map, List.getElem?_eq_getElem hi] at this
          exact Option.some.inj this
        have e5 : t' = t := by
          have e2 : xs[i] = V.ref t := e2
          rw [e4, e3] at e2
          have : V.ref t' = V.ref t := e2
          exact V.ref.inj this
        rw [List.getElem?_map, List.getElem?_eq_getElem hi]
        have e6 : (xs.zip ps)[i]? = some (xs[i], ps[i]) := by rw [List.getElem?_zip_eq_some]; exact ⟨List.getElem?_eq_getElem hx, List.getElem?_eq_getElem hps⟩
        rw [e6]
        show some (backV its[i], prF X.K H its[i]) = _
        rw [← e4, e3, e5, key t _ hq]
      · rw [List.getElem?_eq_none (by simpa using hi), List.getElem?_eq_none (by rw [List.length_zip]; omega)]
    have pairOf : ∀ v ∈ its, ∃ t p, v = Value.ref t ∧ prF X.K H v = p ∧ SqT X.K H t [.int p.1, .int p.2] := fun v hv => by
      have : (backV v, prF X.K H v) ∈ xs.zip ps := by rw [← zipE]; exact List.mem_map.mpr ⟨v, hv, rfl⟩
      obtain ⟨t, e, hq⟩ := hp _ this
      obtain ⟨t', e'⟩ := b2 v hv
      subst e'
      have : V.ref t' = V.ref t := e
      have e5 := V.ref.inj this
      subst e5
      exact ⟨t', _, rfl, rfl, hq⟩
    refine SrtO.den_sorted_ord hT ho hc hd (SrtO.swo_lex (prF X.K H)) hz' (fun h2 h₁ a' ha kk => ?_) fun out h1 h' s1 s2 k1 k2 ⟨ep, he⟩ => ?_
    · refine SrtO.pairs_sortableO (s := { s with heap := h₁ }) (by omega) (fun v hv => ?_) fun o e => ?_
      · obtain ⟨t, p, rfl, e1, hq⟩ := pairOf v hv
        obtain ⟨its2, r2, hl2, _⟩ := I.tuple hq
        obtain ⟨o2, ho2, hc2, n2, hd2⟩ := (show s.heap.IsTuple t its2.toArray from hl2)
        obtain ⟨u1, u2, rfl, ri, rj⟩ := vals2 r2
        obtain ⟨t1, rfl⟩ := ri
        obtain ⟨t2, rfl⟩ := rj
        rw [e1]
        exact ⟨t, o2, t1, t2, n2, rfl, (kk t o2 ho2).2, hc2, hd2⟩
      · have e' : some o = some (PyProof.Rows.seqObj "list" its.toArray 0) := e.symm.trans ha
        cases e'
        intro c
        exact absurd (Value.type.inj c) (by decide)
    · have I1 : Inv X pins σ H { s with heap := h1 } := I.kept (t' := s.toks) k1
      have hm : (out.map fun u => (backV u, prF X.K H u)).Perm (xs.zip ps) := by rw [← zipE]; exact s2.perm.map _
      have hk2 : (out.map fun u => (backV u, prF X.K H u)).map (·.2) = sortP ps := by
        refine sortP_uniq ?_ ?_
        · have := hm.map (·.2)
          rw [List.map_snd_zip (by omega)] at this
          exact this
        · rw [List.map_map]
          refine List.pairwise_map.mpr (s1.imp fun {x y} hh => ?_)
          have := SrtO.lexB_no.mp hh
          simp only [Function.comp]
          omega
      have z := q _ h1.objs.size hm hk2 (I1.hok.fresh (Nat.le_refl _))
      have e0 : (out.map fun u => (backV u, prF X.K H u)).map (·.1) = out.map backV := by rw [List.map_map]; rfl
      rw [e0] at z
      have h3 : ∀ u ∈ out, ∃ a, u = Value.ref a := fun u hu => b2 u (s2.perm.mem_iff.mp hu)
      refine ⟨.ref h1.objs.size, upd H h1.objs.size (.lst (out.map backV)), I1.laid (t' := s.toks) k2 (Nat.le_refl _) ⟨?_, out, ep, vals_back h3, he⟩, rfl, z⟩
      rw [List.length_map, s2.len]
      exact hz'
end Den
/-! DenS: list(reversed(list)) -/
namespace RT
open PySem PySem.Spec PyProof.Rows L2
section
variable {prog : Program} {w : World} {A : Around} {E : Value → Shared → Prop} {s : Shared}
theorem den_extend_rev {R : Result → Shared → Prop} {it l : Addr} {items : Array Value} (hh : A.handled = none) (hit : s.heap.IsRevIter it l ((items.size : Int) - 1)) (hl : s.heap.IsList l items) (hne : l ≠ it) (hn : items.size ≤ sizeLine)
    (S : Addr) (hSi : S ≠ it) (hSl : S ≠ l) (res : Value) (c₀ : Nat) (hS : s.heap.get? S = some { cls := .type "list", data := .seq #[] c₀ })
    (hR : ∀ h' tk acc' c', (∀ b o, b ≠ S → b ≠ it → s.heap.get? b = some o → h'.get? b = some o) → h'.get? S = some { cls := .type "list", dict := none, data := .seq acc' c', slots := #[] } → ItemsOf (fun i v => items[items.size - 1 - i]? = some v) acc' items.size → R (.ok (.ret res)) { s with heap := h', toks := tk }) :
    wpAny (model prog w) A.in1 (Builtin.List.listExtendWith (.ref S) (.ref it) res)
      (fun fin s' => match fin with | .done f => R (.ok f) s' | .again c' => c'.quiet = true ∧ codeAny (model prog w) A c' R s') (fun e s' => R (.error e) s') s := by
  have W := (Walks.listRev (prog := prog) (w := w) (A := A.in1) hh it l hne items).toS
  have hSf : S ∉ [it, l] := by simp only [List.mem_cons, List.not_mem_nil, or_false, not_or]; exact ⟨hSi, hSl⟩
  have hT : s.TypeIs (.ref it) "list_reverseiterator" := hit.typeIs
  have h1 : Builtin.List.listSameRef (.ref S) (.ref it) = false := by simp [Builtin.List.listSameRef, hSi]
  unfold Builtin.List.listExtendWith
  refine wpAny_bind (wpAny_typeOf hT ?_)
  rw [if_neg (by rw [h1]; decide)]
  refine wpAny_bind (wpAny_pyIter_revIter hit ?_)
  refine wpAny_bind (wpAny_holding ?_)
  unfold Builtin.List.listLengthHint
  refine wpAny_bind (wpAny_specialOf hT nolen_lri ?_)
  show wpAny _ A.in1 (specialOf (Value.ref it) (Str.ofString "__length_hint__") >>= _) _ _ _
  refine wpAny_bind (wpAny_specialOf hT hint_lri ?_)
  generalize hid : ("list_reverseiterator.__length_hint__" : String) = id0
  wp_delta
  rw [show splitId id0 = some ("list_reverseiterator", "__length_hint__") from by subst hid; decide +kernel]
  subst hid
  refine wpAny_bind (wpAny_isInstance (b := true) hT (by rw [isSubtype_type]; kernel_rfl) ?_)
  refine wpAny_pure ?_
  rw [if_neg (by decide)]
  have e0 : ((items.size : Nat) : Int) - 1 - ((0 : Nat) : Int) = (items.size : Int) - 1 := by omega
  refine wpAny_pure ⟨plainId_quiet F.plain_extend_loop _, codeAny_extend_loopS W hn S hSf res items.size 0 _ #[] c₀ rfl (Nat.zero_le _) ⟨Nat.zero_le _, by rw [e0]; exact hit, hl⟩ hS (ItemsOf.nil _) fun s' acc' c' hm hS' hacc => ?_⟩
  rw [Moved.eq_with hm]
  refine hR s'.heap s'.toks acc' c' (fun b o hb hi e => hm.heap b o (fun hmem => ?_) e) hS' hacc
  rcases List.mem_cons.mp hmem with e' | hmem
  · exact hb e'
  · exact hi (List.mem_singleton.mp hmem)
theorem den_call_list_rev {it l : Addr} {items : Array Value} {Q : Value → Shared → Prop} (hh : A.handled = none) (hit : s.heap.IsRevIter it l ((items.size : Int) - 1)) (hl : s.heap.IsList l items) (hne : l ≠ it) (hn : items.size ≤ sizeLine)
    (hQ : ∀ h' tk acc' c', (∀ b o, b ≠ it → s.heap.get? b = some o → h'.get? b = some o) → h'.get? s.heap.objs.size = some { cls := .type "list", dict := none, data := .seq acc' c', slots := #[] } → ItemsOf (fun i v => items[items.size - 1 - i]? = some v) acc' items.size → Q (.ref s.heap.objs.size) { s with heap := h', toks := tk }) :
    wpAny (model prog w) A (call (.type "list") [.ref it]) Q E s := by
  obtain ⟨oi, hoi, _⟩ := id hit
  obtain ⟨ol, hol, _⟩ := id hl
  have hSi : s.heap.objs.size ≠ it := Nat.ne_of_gt (Heap.lt_size hoi)
  have hSl : s.heap.objs.size ≠ l := Nat.ne_of_gt (Heap.lt_size hol)
  refine callType_codes (Q₁ := fun obj s₁ => obj = .ref s.heap.objs.size ∧ s₁ = { s with heap := s.heap.push { cls := .type "list", data := .seq #[] } }) F.called_list (F.typeCall_list_1 _) F.entry_list_init
    (code_list_new _ ⟨rfl, rfl⟩) fun obj s₁ h₁ => ?_
  obtain ⟨rfl, rfl⟩ := h₁
  have hS : (s.heap.push { cls := .type "list", data := .seq #[] }).get? s.heap.objs.size = some { cls := .type "list", data := .seq #[] } := Heap.get?_push_size _ rfl
  refine ⟨⟨_, hS, rfl⟩, F.args_list_init_2 _ _, ?_⟩
  show wpAny _ _ (do let old ← Builtin.List.listItems (.ref s.heap.objs.size); Builtin.List.listUpdate (.ref s.heap.objs.size) (fun _ => #[]); letGo old.toList.reverse; Builtin.List.listExtendWith (.ref s.heap.objs.size) (.ref it) .none) _ _ _
  refine wpAny_bind ?_
  unfold Builtin.List.listItems
  refine wpAny_bind (wpAny_seqItems hS rfl (wpAny_pure ?_))
  show wpAny _ _ (updateSeq s.heap.objs.size (fun _ => #[]) >>= fun _ => letGo (#[] : Array Value).toList.reverse >>= fun _ => Builtin.List.listExtendWith (.ref s.heap.objs.size) (.ref it) .none) _ _ _
  refine wpAny_bind (wpAny_updateSeq hS rfl ?_)
  have hS₂ := Heap.get?_update_self (Obj.mapSeq (fun _ => (#[] : Array Value))) hS rfl
  have oth : ∀ b o, b ≠ s.heap.objs.size → (s.heap.push { cls := .type "list", data := .seq #[] }).get? b = some o → ((s.heap.push { cls := .type "list", data := .seq #[] }).update s.heap.objs.size (Obj.mapSeq (fun _ => (#[] : Array Value)))).get? b = some o :=
    fun b o hb e => (Heap.get?_update_other _ _ (Ne.symm hb)).trans e
  refine wpAny_bind (wpAny_letGo ?_)
  refine den_extend_rev (A := A.in1) hh (hit.at fun o e => oth _ _ (Ne.symm hSi) (Heap.get?_push_of_some _ e)) (hl.at fun o e => oth _ _ (Ne.symm hSl) (Heap.get?_push_of_some _ e)) hne hn _ hSi hSl .none _ hS₂ fun h' tk acc' c' hk hS' hacc => ?_
  exact ⟨rfl, hQ h' tk acc' c' (fun b o hb e => hk b o (Nat.ne_of_lt (Heap.lt_size e)) hb (oth b o (Nat.ne_of_lt (Heap.lt_size e)) (Heap.get?_push_of_some _ e))) hS' hacc⟩
end
end RT
namespace Den
open PySem PySem.Spec PyProof.Rows L2 RT
/-- list(reversed(x)), x a list: a new list -/
def tLstRev (K : PySem.W.Frag) (te : TE) : TE := fun σ H Q => te σ H fun v H1 => ∃ (a : Addr) (xs : List V), v = .ref a ∧ SqL K H1 a xs ∧ ∀ q, H1 q = none → Q (.ref q) (upd H1 q (.lst xs.reverse))
theorem pe_lstRev {X : Cx} {e : Expr} {te : TE} {p p2 pos pos2 : Pos} (hc : X.calm = true) (hg : Gl X "list") (hm : X.mg "list" = none) (hg2 : Gl X "reversed") (hm2 : X.mg "reversed" = none) (he : PE X e te)
    (hs : starEach [e] X.env = (false, eval e X.env) :: starEach [] X.env := by rfl)
    (hs2 : starEach [.Call (.Name "reversed" p2) [e] [] pos2] X.env = (false, eval (.Call (.Name "reversed" p2) [e] [] pos2) X.env) :: starEach [] X.env := by rfl) :
    PE X (.Call (.Name "list" p) [.Call (.Name "reversed" p2) [e] [] pos2] [] pos) (tLstRev X.K te) := by
  refine ⟨fun pins s σ H Q I h => ?_⟩
  refine Call_ (ld_blt I hg hm boot_list (PyProof.Rows.callWith_type1 (args_cons (Call_ (ld_blt I hg2 hm2 PyProof.Rows.boot_reversed (PyProof.Rows.callWith_type1 (args_cons (thn (he.run pins s σ H _ I h) fun u s1 ⟨v, H1, I1, r1, q1⟩ => args_nil ?_) hs) hs rfl))) hs2) hs2 rfl))
  obtain ⟨a, xs, ev, hq, q⟩ := q1
  subst ev
  obtain rfl : u = Value.ref a := r1
  obtain ⟨its, rv, p', hz⟩ := I1.list hq
  refine call_reversed_list p'.isList (args_nil ?_)
  have k0 : ∀ b o, s1.heap.get? b = some o → (s1.heap.push (revObj a ((its.toArray.size : Int) - 1))).get? b = some o := fun b o e => Heap.get?_push_of_some _ e
  have I2 : Inv X pins σ H1 { s1 with heap := s1.heap.push (revObj a ((its.toArray.size : Int) - 1)) } := I1.kept (t' := s1.toks) k0
  obtain ⟨f0, f1, f2, f3, f4, f5⟩ := I1.fpOk (H' := H1) (b := s1.heap.objs.size) (Nat.le_refl _) (I1.hok.fresh (Nat.le_refl _))
  have hl := p'.isList
  obtain ⟨ol, hol, _⟩ := id hl
  have hne : a ≠ s1.heap.objs.size := Nat.ne_of_lt (Heap.lt_size hol)
  have hn : its.toArray.size ≤ sizeLine := by rw [List.size_toArray, ← rv.length]; exact hz
  generalize hs2' : ({ s1 with heap := s1.heap.push (revObj a ((its.toArray.size : Int) - 1)) } : Shared) = s2 at I2 ⊢
  have eh : s2.heap = s1.heap.push (revObj a ((its.toArray.size : Int) - 1)) := by rw [← hs2']
  have hit : s2.heap.IsRevIter s1.heap.objs.size a ((its.toArray.size : Int) - 1) := by rw [eh]; exact ⟨_, Heap.get?_push_size _ rfl, rfl, rfl⟩
  have hl2 : s2.heap.IsList a its.toArray := by rw [eh]; exact hl.push _
  refine den_call_list_rev (I1.ok.hd hc) hit hl2 hne hn fun h' tk acc c' hk hS hi => ?_
  have hz2 : s2.heap.objs.size = s1.heap.objs.size + 1 := by rw [eh, Heap.size_push]
  have nS : H1 s2.heap.objs.size = none := I2.hok.fresh (Nat.le_refl _)
  -- the iterator has turned, a new list stands
  have I3 : Inv X pins σ (upd H1 s2.heap.objs.size (.lst xs.reverse)) { s2 with heap := h', toks := tk } :=
    I2.turnedNew (ch := [s1.heap.objs.size]) (fun b o hb e => hk b o (fun z => hb (by simp [z])) e) (fun b hb => by
      have e : b = s1.heap.objs.size := by simpa using hb
      rw [e]; exact ⟨f0, f1, f2, f3, f4, f5⟩) (Nat.le_refl _) (show ObjOk X.prog X.w _ _ _ (.lst xs.reverse) from ⟨by rw [List.length_reverse]; exact hz, acc.toList, c', vals_rev rv hi, by rw [Array.toArray_toList]; exact hS⟩)
  exact ⟨.ref s2.heap.objs.size, _, I3, rfl, q _ nS⟩
end Den
/-! DenT: more built-ins by data -/
namespace Den
open PySem PySem.Spec PyProof.Rows L2
section
variable {X : Cx} {G : Gh} {W : L2.WX} {a e o : Expr} {es : List Expr} {pos apos p p2 pos2 kpos sp : Pos} {fa fb f fo fe : M R} {fr : M (List R)}
/-! ### isinstance -/
def kinds : List String := ["NoneType", "bool", "int", "str", "list", "tuple", "dict"]
theorem tyD_kinds (d : D) : tyD d ∈ kinds ∨ (∃ z, tyD d = z ∧ z ∉ kinds) := by
  by_cases h : tyD d ∈ kinds
  · exact .inl h
  · exact .inr ⟨_, rfl, h⟩
def kitOk (T : String) : Bool := kinds.all fun t => kitB t T == some (t == T || (T == "int" && t == "bool"))
theorem seqL_ty {K : PySem.W.Frag} {H : Hp} {p : Addr} {xs : List V} (h : SqL K H p xs) : TyX K H (.ref p) (.type "list") := by
  rcases h with (h | ⟨o, h⟩) | ⟨o, its, n, hk, hc, _⟩
  · exact .base (.lst h)
  · exact .base (.frz h)
  · exact .kList hk hc
theorem seqT_ty {K : PySem.W.Frag} {H : Hp} {p : Addr} {xs : List V} (h : SqT K H p xs) : TyX K H (.ref p) (.type "tuple") := by
  rcases h with (h | ⟨o, h⟩) | ⟨o, its, n, hk, hc, _⟩
  · exact .base (.tup h)
  · exact .fTuple h
  · exact .kTuple hk hc
theorem rep_ty {K : PySem.W.Frag} {H : Hp} {v : V} {d : D} (h : Rep K H v d) : tyD d ∈ kinds ∧ TyX K H v (.type (tyD d)) := by
  cases h with
  | non => exact ⟨by decide, .base .non⟩
  | bl b => exact ⟨show "bool" ∈ kinds by decide, .base (.bl b)⟩
  | int i => exact ⟨show "int" ∈ kinds by decide, .base (.int i)⟩
  | str x => exact ⟨show "str" ∈ kinds by decide, .base (.str x)⟩
  | lst h r => exact ⟨show "list" ∈ kinds by decide, .base (.lst h)⟩
  | scr h r => exact ⟨show "list" ∈ kinds by decide, seqL_ty h⟩
  | tup h r => exact ⟨show "tuple" ∈ kinds by decide, seqT_ty h⟩
  | @dic a ks kvs h r =>
    have e : tyD (.dict kvs) = "dict" := by
      cases r with
      | nil => rfl
      | @cons k v vs d ds h r => cases k <;> rfl
    rw [e]
    exact ⟨by decide, .base (.dK h)⟩
def gIsi (T : String) (r : R) : M R := do
  let d ← dat r
  retB (isT T d)
theorem de_isi {T : String} {x : Str} (hg : Gl X "isinstance") (hm : X.mg "isinstance" = none) (hv : bootBuiltins "isinstance" = some (.builtin "isinstance")) (hgT : Gl X x) (hmT : X.mg x = none) (hvT : bootBuiltins x = some (.type T)) (hk : kitOk T = true) (ha : PE X a (tD G W fa)) (hK : X.K = G.K)
    (hn : x ≠ "__name__" := by decide) (hdb : (x == ("__debug__" : Str)) = false := by decide)
    (hs : starEach [a, .Name x p2] X.env = (false, eval a X.env) :: starEach [.Name x p2] X.env := by rfl) (hs2 : starEach [.Name x p2] X.env = (false, eval (.Name x p2) X.env) :: starEach [] X.env := by rfl)
    (hpl : (backTo pos (starEach [.Name x p2] X.env)).any (·.1) = false := by rfl) :
    PE X (.Call (.Name "isinstance" p) [a, .Name x p2] [] pos) (tD G W (do let r ← fa; gIsi T r)) :=
  pe_imp (pe_callB call_isi hg hm hv (pa_cons ha (pa_cons (pe_bltn (v := .ty T) hgT hmT hvT rfl hn hdb) pa_nil hs2) hs) (by decide) (by decide) hs hpl) fun σ H Q q => by
    obtain ⟨ds, ts, h, p⟩ := q
    refine tD.go (k := fun x => pure x) h (Post.bind.mp p) fun r ds1 v H1 p1 h1 => ?_
    obtain ⟨d, hd, p1⟩ := Post.dat (r := r) p1
    obtain ⟨Hd, h1'⟩ := id h1
    obtain ⟨hm, ht⟩ := rep_ty (h1'.look h1'.top hd)
    have := List.all_eq_true.mp hk _ hm
    have hkit : kitB (tyD d) T = some (isT T d) := by simpa [isT] using this
    exact ⟨v, .ty T, _, _, isT T d, rfl, .ty T, hK ▸ ht, kit_ty hkit, p1 _ _ (Rel.flat h1.pop (flat_bl _))⟩

/-! ### *e in a display -/
def starD (fe : M R) (fr : M (List R)) : M (List R) := do
  let r ← fe
  let d ← dat r
  match seqOf d with
  | some es => do
    let xs ← fr
    pure (es.map .dat ++ xs)
  | none => fail
theorem da_star (hK : X.K = G.K) (he : PE X e (tD G W fe)) (hr : PA X es (tA G W fr)) (hs : starEach (.Starred e sp :: es) X.env = (true, eval e X.env) :: starEach es X.env := by rfl) : PA X (.Starred e sp :: es) (tA G W (starD fe fr)) :=
  pa_imp (StX.pa_star he hr hs) fun σ H Q q => by
    obtain ⟨ds, ts, h, p⟩ := q
    refine tD.go (k := fun x => pure x) h (Post.bind.mp p) fun r ds1 v H1 p1 h1 => ?_
    obtain ⟨d, hd, p1⟩ := Post.dat (r := r) p1
    obtain ⟨Hd, h1'⟩ := id h1
    cases hq : seqOf d with
    | none => simp only [hq] at p1; exact p1.elim
    | some es' =>
      simp only [hq] at p1
      obtain ⟨a, xs, e1, e2, e3⟩ := h1'.seq h1'.top hd hq
      refine ⟨a, xs, e1, hK ▸ e2.symm, ?_⟩
      have h2 : Rel G ds1 ((es'.map R.dat).zip xs ++ ts) σ H1 := ⟨Hd, zip_reps e3 h1'.pop⟩
      refine tA.go h2 ((Post.bind.mp p1).mono (fun _ _ z => z) fun _ _ z => z.more (List.sublist_append_right _ _)) fun rs ds2 vs H2 p2 hl h3 => ?_
      refine p2 (xs ++ vs) H2 ?_ ?_
      · rw [List.length_append, List.length_append, List.length_map, e3.length, hl]
      · have ez : (es'.map R.dat ++ rs).zip (xs ++ vs) = (es'.map R.dat).zip xs ++ rs.zip vs := List.zip_append (by rw [List.length_map, e3.length])
        rw [ez]
        refine h3.perm ?_
        rw [← List.append_assoc]
        exact (List.perm_append_comm (l₁ := rs.zip vs) (l₂ := (es'.map R.dat).zip xs)).symm.append_right ts

/-! ### sorted -/
def pairsOf : List D → Option (List (Int × Int))
  | [] => some []
  | .tuple [.int i, .int j] :: r => (pairsOf r).map ((i, j) :: ·)
  | _ => none
def pairD (p : Int × Int) : D := .tuple [.int p.1, .int p.2]
theorem pairsOf_map (ps : List (Int × Int)) : pairsOf (ps.map pairD) = some ps := by
  induction ps with
  | nil => rfl
  | cons p r ih => simp [pairsOf, pairD] at *; exact ih
theorem pairsOf_eq : ∀ {es : List D} {ps : List (Int × Int)}, pairsOf es = some ps → es = ps.map pairD
  | [], ps, h => by cases h; rfl
  | d :: r, ps, h => by
    unfold pairsOf at h
    split at h
    · cases ‹_ :: _ = []›
    · rename_i i j r' e
      cases e
      cases hr : pairsOf r with
      | none => rw [hr] at h; cases h
      | some q => rw [hr] at h; cases h; rw [List.map_cons, ← pairsOf_eq hr]; rfl
    · cases h
def gSorted (rs : List R) : M R := do
  let r ← one rs
  let d ← dat r
  match seqOf d with
  | some es => match intsOf es with
    | some ns => newL ((sortI ns).map .int)
    | none => match pairsOf es with
      | some ps => newL ((sortP ps).map pairD)
      | none => fail
  | none => fail
theorem pairs_rep {K : PySem.W.Frag} {H : Hp} : ∀ {xs : List V} {ps : List (Int × Int)}, RepAll K H xs (ps.map pairD) → ∀ z ∈ xs.zip ps, Rep K H z.1 (pairD z.2)
  | _, [], h, z, hz => by cases h; cases hz
  | _, p :: r, .cons h t, z, hz => by
    rcases List.mem_cons.mp hz with rfl | hz
    · exact h
    · exact pairs_rep t z hz
theorem repAll_zs {K : PySem.W.Frag} {H : Hp} : ∀ {zs : List (V × (Int × Int))}, (∀ z ∈ zs, Rep K H z.1 (pairD z.2)) → RepAll K H (zs.map (·.1)) ((zs.map (·.2)).map pairD)
  | [], _ => .nil
  | z :: zs, h => .cons (h z List.mem_cons_self) (repAll_zs fun y hy => h y (List.mem_cons_of_mem _ hy))
theorem do_sorted : DoesN G W (rSortedA G.K) gSorted := by
  intro vs H Q σ ds ts rs hl h p
  obtain ⟨r, v, rfl, rfl, p⟩ := one_of hl p
  obtain ⟨d, hd, p⟩ := Post.dat (r := r) p
  obtain ⟨Hd, h'⟩ := id h
  have hv := h'.tmp (r, v) List.mem_cons_self
  cases hs : seqOf d with
  | none => simp only [hs] at p; exact p.elim
  | some es =>
    simp only [hs] at p
    obtain ⟨a, xs, e1, e2, e3⟩ := h'.seq hv hd hs
    have e1 : v = .ref a := e1
    cases hi : intsOf es with
    | some ns =>
      simp only [hi] at p
      obtain ⟨e4, e5⟩ := intsOf_rep e3 hi
      refine ⟨a, xs, by rw [e1], e2, .inl ⟨ns, e4, fun q nq => p _ _ (Rel.newL ⟨Hd, h'.pop, RepAll.ints _⟩ nq)⟩⟩
    | none =>
      simp only [hi] at p
      cases hp : pairsOf es with
      | none => simp only [hp] at p; exact p.elim
      | some ps =>
        simp only [hp] at p
        have e5 := pairsOf_eq hp
        rw [e5] at e3
        have pr := pairs_rep e3
        refine ⟨a, xs, by rw [e1], e2, .inr ⟨ps, by rw [e3.length, List.length_map], fun z hz => ?_, fun zs q pm ek nq => ?_⟩⟩
        · have := (pr z hz).mono h'.sub
          obtain ⟨z1, z2⟩ := z
          simp only at this
          generalize hq : pairD z2 = dd at this
          cases this with
          | tup s rr =>
            cases hq
            cases rr with | cons a1 r1 => cases r1 with | cons a2 r2 => cases r2; rw [rep_int a1, rep_int a2] at s; exact ⟨_, rfl, s⟩
          | _ => cases hq
        · have ra := repAll_zs (zs := zs) fun z hz => pr z (pm.mem_iff.mp hz)
          rw [ek] at ra
          exact p _ _ (Rel.newL ⟨Hd, h'.pop, ra⟩ nq)

/-! ### max(xs, default=d) -/
def gMaxDef (rs : List R) (d : R) : M R := do
  let r ← one rs
  let l ← dat r
  let i ← asInt d
  match l with
  | .list es => match intsOf es with
    | some ns => retI (if ns = [] then i else maxL ns)
    | none => fail
  | _ => fail
theorem de_maxDef (hc : X.calm = true) (hK : X.K = G.K) (hg : Gl X "max") (hm : X.mg "max" = none) (hv : bootBuiltins "max" = some (.builtin "max")) (ha : PA X (e :: es) (tA G W fr)) (hb : PE X o (tD G W fo))
    (he : backTo pos (starEach (e :: es) X.env) = (false, eval e X.env) :: backTo pos (starEach es X.env) := by rfl) (hpl : (backTo pos (starEach (e :: es) X.env)).any (·.1) = false := by rfl)
    (hall : (backToKw pos (keywordEach [⟨some "default", o, kpos⟩] X.env)).all (·.1.isSome) = true := by rfl) (hnone : (backToKw pos (keywordEach [⟨some "default", o, kpos⟩] X.env)).any (·.1.isNone) = false := by rfl) (hks : (backToKw pos (keywordEach [⟨some "default", o, kpos⟩] X.env)).filterMap (·.1) = [Str.ofString "default"] := by rfl) :
    PE X (.Call (.Name "max" p) (e :: es) [⟨some "default", o, kpos⟩] pos) (tD G W (do let rs ← fr; let d ← fo; gMaxDef rs d)) :=
  pe_imp (pe_callBK (cr_maxDef hc) hg hm hv ha (pk_cons hb pk_nil) (by decide) (by decide) he hpl hall hnone hks) fun σ H Q q => by
    obtain ⟨ds, ts, h, p⟩ := q
    refine tA.go h (Post.bind.mp p) fun rs ds1 vs H1 p1 hl h1 => ?_
    refine tD.go (k := fun x => pure x) h1 ((Post.bind.mp p1).mono (fun _ _ z => z) fun _ _ z => z.more (List.sublist_append_right _ _)) fun rd ds2 w H2 p2 h2 => ?_
    obtain ⟨r, v, rfl, rfl, p2⟩ := one_of hl p2
    obtain ⟨l, hld, p3⟩ := Post.dat (r := r) p2
    obtain ⟨i, rfl, p4⟩ := Post.asInt (r := rd) p3
    obtain ⟨Hd, h'⟩ := id h2
    have ew : w = .int i := rep_int h'.top
    have hv' := h'.tmp (r, v) (List.mem_cons_of_mem _ List.mem_cons_self)
    have h3 : Rel G ds2 ts σ H2 := (Rel.pop h2).sub' (List.sublist_append_right _ _)
    cases l with
    | list es' =>
      simp only at p4
      cases hi : intsOf es' with
      | none => simp only [hi] at p4; exact p4.elim
      | some ns =>
        simp only [hi] at p4
        obtain ⟨a', xs, e1, e2, e3⟩ := h'.list hv' hld
        have e1 : v = .ref a' := e1
        obtain ⟨e4, _⟩ := intsOf_rep e3 hi
        refine ⟨a', ns, i, by rw [e1], by rw [ew], hK ▸ SqL.of (e4 ▸ e2), fun z => ?_, fun m m1 m2 => ?_⟩
        · rw [if_pos z] at p4
          exact p4 _ _ (Rel.flat h3 (flat_int _))
        · rw [if_neg (by rintro rfl; cases m1)] at p4
          rw [maxL_uniq m1 m2]
          exact p4 _ _ (Rel.flat h3 (flat_int _))
    | _ => exact p4.elim

/-! ### list(reversed(x)) -/
def gRev (r : R) : M R := do
  let d ← dat r
  match d with
  | .list es => newL es.reverse
  | _ => fail
theorem de_lstRev (hc : X.calm = true) (hK : X.K = G.K) (hg : Gl X "list") (hm : X.mg "list" = none) (hg2 : Gl X "reversed") (hm2 : X.mg "reversed" = none) (he : PE X e (tD G W fe))
    (hs : starEach [e] X.env = (false, eval e X.env) :: starEach [] X.env := by rfl)
    (hs2 : starEach [.Call (.Name "reversed" p2) [e] [] pos2] X.env = (false, eval (.Call (.Name "reversed" p2) [e] [] pos2) X.env) :: starEach [] X.env := by rfl) :
    PE X (.Call (.Name "list" p) [.Call (.Name "reversed" p2) [e] [] pos2] [] pos) (tD G W (do let r ← fe; gRev r)) := pe_imp (pe_lstRev hc hg hm hg2 hm2 he hs hs2) fun σ H Q q => by
  obtain ⟨ds, ts, h, p⟩ := q
  refine tD.go (k := fun x => pure x) h (Post.bind.mp p) fun r ds1 v H1 p1 h1 => ?_
  obtain ⟨d, hd, p1⟩ := Post.dat (r := r) p1
  obtain ⟨Hd, h'⟩ := id h1
  cases d with
  | list es' =>
    obtain ⟨a', xs, e1, e2, e3⟩ := h'.list h'.top hd
    have e1 : v = .ref a' := e1
    exact ⟨a', xs, e1, hK ▸ SqL.of e2, fun q nq => p1 _ _ (Rel.newL ⟨Hd, h'.pop, e3.reverse⟩ nq)⟩
  | _ => exact p1.elim

/-! ### {}, dict(pairs), list(dict), str(int) -/
theorem de_dict0 : PE X (.Dict [] [] pos) (tD G W (pure (.new (.dict [])))) := pe_imp pe_dnewK fun σ H Q q => by
  obtain ⟨ds, ts, h, p⟩ := q
  obtain ⟨Hd, h'⟩ := id h
  exact fun q nq => p _ _ ⟨Hd, h'.make nq ⟨[], upd_same, .nil⟩⟩
def gStr (rs : List R) : M R := do
  let r ← one rs
  let i ← asInt r
  need (decide (i.natAbs.log2 < 1920))
  pure (.dat (.str (toString i)))
theorem do_str : DoesN G W (fun xs H Q => ∃ i, xs = [.int i] ∧ i.natAbs.log2 < 1920 ∧ Q (.str (toString i)) H) gStr := by
  intro vs H Q σ ds ts rs hl h p
  obtain ⟨r, v, rfl, rfl, p⟩ := one_of hl p
  obtain ⟨i, rfl, p⟩ := Post.asInt (r := r) p
  obtain ⟨c, p⟩ := Post.need (b := decide _) p
  obtain ⟨Hd, h'⟩ := id h
  exact ⟨i, by rw [show v = .int i from rep_int (h'.tmp (.dat (.int i), v) List.mem_cons_self)], of_decide_eq_true c, p _ _ (Rel.flat h.pop (flat_str _))⟩
end
end Den
/-! DenU: dict(list of pairs), list(dict) -/
namespace Den
open PySem PySem.Spec PyProof.Rows L2
def kvsOf : List D → Option (List (Key × D))
  | [] => some []
  | .tuple [k, v] :: r => match keyOf k, kvsOf r with
    | some kk, some q => some ((kk, v) :: q)
    | _, _ => none
  | _ => none
def mergeD (kvs : List (D × D)) (more : List (Key × D)) : List (D × D) := more.foldl (fun acc kv => putD (kD kv.1) kv.2 acc) kvs
section
variable {K : PySem.W.Frag} {H : Hp}
theorem kvs_rep : ∀ {es : List D} {xs : List V} {q : List (Key × D)}, RepAll K H xs es → kvsOf es = some q →
    ∃ (ps : List Addr) (kvs : List (Key × V)), xs = ps.map V.ref ∧ Paired (fun p (kv : Key × V) => SqT K H p [kV kv.1, kv.2]) ps kvs ∧ Paired (fun (kv : Key × V) (kd : Key × D) => kv.1 = kd.1 ∧ Rep K H kv.2 kd.2) kvs q
  | [], _, q, .nil, h => by cases h; exact ⟨[], [], rfl, .nil, .nil⟩
  | d :: r, _, q, .cons hx hr, h => by
    unfold kvsOf at h
    split at h
    · cases ‹_ :: _ = []›
    · rename_i k v r' e
      cases e
      cases hk : keyOf k with
      | none => rw [hk] at h; cases h
      | some kk =>
        cases hq : kvsOf r with
        | none => rw [hk, hq] at h; cases h
        | some q' =>
          rw [hk, hq] at h
          cases h
          obtain ⟨ps, kvs, e1, e2, e3⟩ := kvs_rep hr hq
          cases hx with
          | @tup a us _ s rr =>
            cases rr with | @cons u1 _ _ _ a1 r1 => cases r1 with | @cons u2 _ _ _ a2 r2 =>
              cases r2
              obtain ⟨e4, _⟩ := rep_key a1 hk
              subst e4
              exact ⟨a :: ps, (kk, u2) :: kvs, by rw [e1]; rfl, .cons s e2, .cons ⟨rfl, a2⟩ e3⟩
    · cases h
theorem merge_rep : ∀ {kvs : List (Key × V)} {q : List (Key × D)} {ks : List (Key × V)} {kd : List (D × D)}, Paired (fun (kv : Key × V) (kd : Key × D) => kv.1 = kd.1 ∧ Rep K H kv.2 kd.2) kvs q → RepK K H ks kd → RepK K H (mergeK ks kvs) (mergeD kd q)
  | _, _, _, _, .nil, h => h
  | _, _, _, _, .cons ⟨e, r⟩ t, h => by
    unfold mergeK mergeD
    rw [List.foldl_cons, List.foldl_cons, ← e]
    exact merge_rep t (h.put r)
theorem keys_rep : ∀ {ks : List (Key × V)} {kd : List (D × D)}, RepK K H ks kd → RepAll K H (ks.map fun kv => kV kv.1) (kd.map (·.1))
  | _, _, .nil => .nil
  | _, _, .cons (k := k) h r => .cons (by cases k; exact .int _; exact .str _) (keys_rep r)
theorem paired_mono {α β : Type} {F F' : α → β → Prop} (f : ∀ a b, F a b → F' a b) : ∀ {xs : List α} {ys : List β}, Paired F xs ys → Paired F' xs ys
  | _, _, .nil => .nil
  | _, _, .cons h t => .cons (f _ _ h) (paired_mono f t)
end
section
variable {X : Cx} {G : Gh} {W : L2.WX}
def gDictP (rs : List R) : M R := do
  let r ← one rs
  let d ← dat r
  match d with
  | .list es => match kvsOf es with
    | some q => pure (.new (.dict (mergeD [] q)))
    | none => fail
  | _ => fail
theorem do_dictP : DoesN G W (fun xs H Q => ∃ (a : Addr) (ps : List Addr) (kvs : List (Key × V)), xs = [.ref a] ∧ SqL G.K H a (ps.map V.ref) ∧ Paired (fun p kv => SqT G.K H p [kV kv.1, kv.2]) ps kvs ∧
    ∀ p, H p = none → Q (.ref p) (upd H p (.dK (mergeK [] kvs)))) gDictP := by
  intro vs H Q σ ds ts rs hl h p
  obtain ⟨r, v, rfl, rfl, p⟩ := one_of hl p
  obtain ⟨d, hd, p⟩ := Post.dat (r := r) p
  obtain ⟨Hd, h'⟩ := id h
  have hv := h'.tmp (r, v) List.mem_cons_self
  cases d with
  | list es =>
    simp only at p
    cases hq : kvsOf es with
    | none => simp only [hq] at p; exact p.elim
    | some q =>
      simp only [hq] at p
      obtain ⟨a, xs, e1, e2, e3⟩ := h'.list hv hd
      have e1 : v = .ref a := e1
      obtain ⟨ps, kvs, f1, f2, f3⟩ := kvs_rep e3 hq
      refine ⟨a, ps, kvs, by rw [e1], SqL.of (f1 ▸ e2), paired_mono (fun p kv z => Same.seqT h'.sub z) f2, fun q' nq => p _ _ ⟨Hd, h'.pop.make nq ⟨_, upd_same, merge_rep f3 .nil⟩⟩⟩
  | _ => exact p.elim
/-- list(..) of a list, a tuple, a dict -/
def gListA (rs : List R) : M R := do
  let r ← one rs
  let d ← dat r
  match seqOf d with
  | some es => newL es
  | none => match d with
    | .dict kvs => newL (kvs.map (·.1))
    | _ => fail
theorem do_listA : DoesN G W (fun xs H Q => (∃ p ys, xs = [V.ref p] ∧ (SqL G.K H p ys ∨ SqT G.K H p ys) ∧ ∀ (l : Addr), H l = none → Q (V.ref l) (upd H l (HO.lst ys))) ∨
    ∃ (a : Addr) (kvs : List (Key × V)), xs = [.ref a] ∧ Rd H a (.dK kvs) ∧ ∀ p, H p = none → Q (.ref p) (upd H p (.lst (kvs.map fun kv => kV kv.1)))) gListA := by
  intro vs H Q σ ds ts rs hl h p
  obtain ⟨r, v, rfl, rfl, p⟩ := one_of hl p
  obtain ⟨d, hd, p⟩ := Post.dat (r := r) p
  obtain ⟨Hd, h'⟩ := id h
  have hv := h'.tmp (r, v) List.mem_cons_self
  cases hs : seqOf d with
  | some es =>
    simp only [hs] at p
    obtain ⟨a, xs, e1, e2, e3⟩ := h'.seq hv hd hs
    have e1 : v = .ref a := e1
    exact .inl ⟨a, xs, by rw [e1], e2, fun l nl => p _ _ (Rel.newL ⟨Hd, h'.pop, e3⟩ nl)⟩
  | none =>
    simp only [hs] at p
    cases d with
    | dict kvs =>
      obtain ⟨a, ks, e1, e2, e3⟩ := h'.dict hv hd hs
      have e1 : v = .ref a := e1
      exact .inr ⟨a, ks, by rw [e1], .inl e2, fun l nl => p _ _ (Rel.newL ⟨Hd, h'.pop, keys_rep e3⟩ nl)⟩
    | _ => exact p.elim
end
end Den
/-! DenV: sorted(xs, key=f), f whatever it may do, at the machine -/
namespace PySem.W
open PySem PySem.Calls PyProof.Rows
section
variable {prog : Program} {w : World} {A : Around} {E : Value → Shared → Prop} {s : Shared} {a kS : Addr} {b : Bool} {vs : List Value} {keys : Array Value} {e e1 : Nat} {P : PySem.Fin → Shared → Prop} {kz : List PyData}
def Keeps2 (a c : Addr) (h h' : Heap) : Prop := ∀ b o, b ≠ a → b ≠ c → h.get? b = some o → h'.get? b = some o
theorem den_key_tail {st : SortSt} {out : List Value} (nk : s.heap.get? kS = some (seqObj "list" keys e)) (na : s.heap.get? a = some (seqObj "list" #[] e1)) (hka : kS ≠ a)
    (hsz : keys.size ≤ sizeLine) (hz : out.length ≤ sizeLine) (hfl : failedOf st = none) (ho : (if b = true then ((arrOf st).map (·.2)).reverse else (arrOf st).map (·.2)) = out.toArray)
    (h : ∀ h' tk c, Keeps2 a kS s.heap h' → h'.get? a = some (seqObj "list" out.toArray c) → P (.done (.ret .none)) { s with heap := h', toks := tk }) :
    wpAny (model prog w) A (ksk_tail a b e1 (.ref kS) st) P E s := by
  have s1 := Heap.SameBut.update s.heap kS (Obj.mapSeq fun _ => (#[] : Array Value))
  have na1 : (s.heap.update kS (Obj.mapSeq fun _ => (#[] : Array Value))).get? a = some (seqObj "list" #[] e1) := (s1.2 a hka.symm).trans na
  have s2 := Heap.SameBut.update (s.heap.update kS (Obj.mapSeq fun _ => (#[] : Array Value))) a (Obj.mapSeq fun _ => out.toArray)
  obtain ⟨c2, hc2⟩ : ∃ c2, ((s.heap.update kS (Obj.mapSeq fun _ => (#[] : Array Value))).update a (Obj.mapSeq fun _ => out.toArray)).get? a = some (seqObj "list" out.toArray c2) :=
    ⟨_, get?_update_seq na1 fun _ => out.toArray⟩
  have hz2 : out.toArray.size ≤ sizeLine + 1 := by
    rw [List.size_toArray]
    exact Nat.le_succ_of_le hz
  unfold ksk_tail
  try dsimp only
  rw [ho]
  refine wpAny_bind (listUpdate_at nk rfl ?_ hsz (Nat.zero_le _))
  refine wpAny_bind (wpAny_letGo ?_)
  refine wpAny_bind (seqEpoch_at na1 rfl ?_)
  refine wpAny_bind (listUpdate_at na1 rfl ?_ (Nat.zero_le _) hz2)
  rw [hfl]
  simp only [bne_self_eq_false, Bool.false_eq_true, if_false]
  exact wpAny_pure (h _ _ c2 (fun b o hb hc q => (s2.2 b hb).trans ((s1.2 b hc).trans q)) hc2)
theorem den_key_end {κ : PyProof.Rows.KeyKind} (nk : s.heap.get? kS = some (seqObj "list" keys e)) (na : s.heap.get? a = some (seqObj "list" #[] e1)) (hka : kS ≠ a)
    (S : SortsAt prog w A s κ keys.toList) (hsz : keys.size = vs.length) (hZ : vs.length ≤ sizeLine)
    (h : ∀ h' tk c, Keeps2 a kS s.heap h' → h'.get? a = some (seqObj "list" (sortVals κ b keys.toList vs).toArray c) → P (.done (.ret .none)) { s with heap := h', toks := tk }) :
    wpAny (model prog w) A (ksk_end a b vs.toArray e1 (.ref kS) keys) P E s := by
  obtain ⟨kd, h1, h2⟩ := S.kind
  have hkl : keys.toList.length = vs.length := by
    rw [Array.length_toList]
    exact hsz
  have hK : PyProof.Rows.KeysOf κ (keys.zip vs.toArray) := keysOf_zip S.keys
  have hol : (sortVals κ b keys.toList vs).length = vs.length := sortVals_length b hkl
  have hstart : (if b = true then (keys.zip vs.toArray).reverse else keys.zip vs.toArray).Perm (keys.zip vs.toArray) := by
    cases b with
    | false => exact Array.Perm.refl _
    | true => exact Array.perm_iff_toList_perm.mpr (by rw [if_pos rfl, Array.toList_reverse]; exact List.reverse_perm _)
  have hss : (if b = true then (keys.zip vs.toArray).reverse else keys.zip vs.toArray).size = vs.length := by rw [hstart.size_eq, Array.size_zip, hsz, List.size_toArray, Nat.min_self]
  have fin : ∀ st' : SortSt, (arrOf st').Perm (if b = true then (keys.zip vs.toArray).reverse else keys.zip vs.toArray) → SortedToK κ (arrOf st') (if b = true then (keys.zip vs.toArray).reverse else keys.zip vs.toArray).size →
      Stable κ (arrOf st') (if b = true then (keys.zip vs.toArray).reverse else keys.zip vs.toArray) → (if b = true then ((arrOf st').map (·.2)).reverse else (arrOf st').map (·.2)) = (sortVals κ b keys.toList vs).toArray := by
    intro st' hp hs ht
    have e := sort_out (rev := b) (keys := keys) (items := vs.toArray) (xs := arrOf st') (κ := κ) hK hp hs ht
    have e' := congrArg List.toArray e
    rw [Array.toArray_toList] at e'
    exact e'
  have step : ∀ t : Sem PySem.Fin, wpAny (model prog w) A t P E s → wpAny (model prog w) A (if b = true then (do let _ ← rule "list.sort.reverse"; t) else t) P E s := by
    intro t ht
    split
    · exact wpAny_bind (wpAny_rule ht)
    · exact ht
  unfold ksk_end
  try dsimp only
  refine step _ ?_
  by_cases hl2 : vs.toArray.size < 2
  · rw [if_pos hl2, if_pos hl2]
    refine wpAny_bind (wpAny_pure ?_)
    rw [StateT.run_pure]
    refine wpAny_bind (wpAny_pure ?_)
    try dsimp only
    refine den_key_tail (st := SortSt.mk' general' (if b = true then (keys.zip vs.toArray).reverse else keys.zip vs.toArray) #[] 7 none) nk na hka (by rw [hsz]; exact hZ) (by rw [hol]; exact hZ) rfl (fin _ (Array.Perm.refl _) ?_ (Stable.refl _)) h
    intro i j hij hj
    rw [hss] at hj
    rw [List.size_toArray] at hl2
    have : i = j := by omega
    subst this
    exact KeyOrd.kle_refl _
  · rw [if_neg hl2, if_neg hl2]
    rw [List.size_toArray] at hl2
    refine wpAny_bind (h2 (by omega) _ ?_)
    refine wpAny_bind (wpAny_mono (H.wpS_sortRunsSt (κ := κ) (kd := kd) (a₀ := if b = true then (keys.zip vs.toArray).reverse else keys.zip vs.toArray)
      (st := SortSt.mk' kd (if b = true then (keys.zip vs.toArray).reverse else keys.zip vs.toArray) #[] 7 none)
      (Q := fun _ st' => failedOf st' = none ∧ (if b = true then ((arrOf st').map (·.2)).reverse else (arrOf st').map (·.2)) = (sortVals κ b keys.toList vs).toArray)
      h1 (hK.perm hstart) ⟨Array.Perm.refl _, rfl, rfl⟩ rfl (Stable.refl _) (by rw [hss]; omega) fun st' a1 a2 a3 a4 => ⟨a2, fin st' a1 a3 a4⟩) ?_ fun _ _ e => e)
    rintro ⟨⟨⟩, st'⟩ s' ⟨rfl, hf, ho⟩
    try dsimp only at ho ⊢
    exact den_key_tail nk na hka (by rw [hsz]; exact hZ) (by rw [hol]; exact hZ) hf ho h
/-- the keys kz, read at s -/
structure KeysAt (A : Around) (s : Shared) (kA : List Value) (kz : List PyData) : Prop where
  reads : EachIs (fun v k => ∃ as, Reads s.heap v k as) kA kz
  al : AllAlike kz
  srt : Sortable kz
  un : ∀ d, d ∈ kz → A.units + d.depth < cLine
theorem den_key_rest {f : Value} (J : Nat → List Value → Shared → Prop) (hka : kS ≠ a) (hZ : vs.length ≤ sizeLine) (h0 : J 0 [] s)
    (hJ : ∀ i kA s', J i kA s' → kA.length = i ∧ (∃ e, s'.heap.get? kS = some (seqObj "list" kA.toArray e)) ∧ s'.heap.get? a = some (seqObj "list" #[] e1))
    (turn : ∀ (i : Nat) (v : Value) (kA : List Value) (s' : Shared), vs[i]? = some v → J i kA s' → wpAny (model prog w) A (call f [v]) (fun k s'' => (∃ e, s''.heap.get? kS = some (seqObj "list" kA.toArray e)) ∧
      ∀ h', Heap.SameBut kS s''.heap h' → (∃ e, h'.get? kS = some (seqObj "list" (kA ++ [k]).toArray e)) → J (i + 1) (kA ++ [k]) { s'' with heap := h' }) (fun _ _ => False) s')
    (done : ∀ kA s', J vs.length kA s' → ∃ kz, KeysAt A s' kA kz ∧ ∀ h' tk out c, Keeps2 a kS s'.heap h' → h'.get? a = some (seqObj "list" (List.toArray out) c) → KeyedOut b kz vs out → P (.done (.ret .none)) { s' with heap := h', toks := tk }) :
    wpAny (model prog w) A (ksk_rest a f b vs.toArray e1 (.ref kS)) P E s := by
  unfold ksk_rest
  refine wpAny_bind (wpAny_rule ?_)
  first
    | rw [List.forIn_toArray]
    | (rw [← Array.forIn_toList]; simp only [List.toList_toArray])
    | rw [← Array.forIn_toList]
  refine wpAny_bind (ksk_fold (fun i s' => ∃ kA, J i kA s') vs 0 s ⟨[], h0⟩ ?step ?done)
  case step =>
    rintro j x s' hx ⟨kA, hj⟩
    simp only [Nat.zero_add] at hj ⊢
    obtain ⟨hl, _, _⟩ := hJ _ _ _ hj
    have hlt : j < vs.length := (List.getElem?_eq_some_iff.mp hx).1
    refine wpAny_bind (wpAny_attempt (wpAny_mono (turn j x kA s' hx hj) (fun v s'' he => ?_) fun _ _ hF => hF.elim))
    obtain ⟨⟨e, nk2⟩, hnext⟩ := he
    try dsimp only
    have ea : (kA.toArray.push v) = (kA ++ [v]).toArray := by simp
    have hc2 := get?_update_seq nk2 (·.push v)
    refine wpAny_bind (listUpdate_at nk2 rfl ?_ (by rw [List.size_toArray]; omega) (Nat.le_trans (Nat.le_of_eq (Array.size_push ..)) (by rw [List.size_toArray]; omega)))
    exact wpAny_pure ⟨rfl, _, hnext _ (Heap.SameBut.update ..) ⟨_, by rw [← ea]; exact hc2⟩⟩
  case done =>
    rintro s' ⟨kA, hj⟩
    rw [Nat.zero_add] at hj
    obtain ⟨hl, ⟨e, nk⟩, na⟩ := hJ _ _ _ hj
    obtain ⟨kz, K, hq⟩ := done kA s' hj
    try dsimp only
    refine wpAny_bind (listItems_at nk rfl ?_)
    exact den_key_end (κ := dataKind s'.heap kz) nk na hka (SortsAt.data (s := s') (by simpa using K.reads) K.al K.srt K.un) (by rw [List.size_toArray]; exact hl) hZ fun h3 tk3 c k3 n3 => hq h3 tk3 _ c k3 n3 ⟨s'.heap, kA.toArray.toList, K.al, rfl, by simpa using K.reads⟩
/-- sorted(xs, key=f), xs a list or a tuple -/
theorem den_sorted_key {l : Addr} {T : String} {o : Obj} {n : Nat} {f : Value} {Q : Value → Shared → Prop} (hT : T = "list" ∨ T = "tuple") (ho : s.heap.get? l = some o) (hc : o.cls = .type T) (hd : o.data = .seq vs.toArray n) (hZ : vs.length ≤ sizeLine)
    (ht : ∀ x, Builtin.«list.sort» ⟨[.ref x], [(Str.ofString "key", f)]⟩ = ksk_tree x f false)
    (h : ∀ (h1 h2 : Heap) (kS : Addr) (e1 : Nat), (∀ b o, s.heap.get? b = some o → h1.get? b = some o) → (∀ b o, h1.get? b = some o → h2.get? b = some o) → h1.objs.size < kS → h1.objs.size < h2.objs.size → kS < h2.objs.size →
      h2.get? h1.objs.size = some (seqObj "list" #[] e1) → h2.get? kS = some (seqObj "list" #[] 0) →
      ∃ J : Nat → List Value → Shared → Prop, J 0 [] { s with heap := h2 } ∧
        (∀ i kA s', J i kA s' → kA.length = i ∧ (∃ e, s'.heap.get? kS = some (seqObj "list" kA.toArray e)) ∧ s'.heap.get? h1.objs.size = some (seqObj "list" #[] e1)) ∧
        (∀ (i : Nat) (v : Value) (kA : List Value) (s' : Shared), vs[i]? = some v → J i kA s' → wpAny (model prog w) A.in1.in1 (call f [v]) (fun k s'' => (∃ e, s''.heap.get? kS = some (seqObj "list" kA.toArray e)) ∧
          ∀ h', Heap.SameBut kS s''.heap h' → (∃ e, h'.get? kS = some (seqObj "list" (kA ++ [k]).toArray e)) → J (i + 1) (kA ++ [k]) { s'' with heap := h' }) (fun _ _ => False) s') ∧
        (∀ kA s', J vs.length kA s' → ∃ kz, KeysAt A.in1.in1 s' kA kz ∧ ∀ h' tk out c, Keeps2 h1.objs.size kS s'.heap h' → h'.get? h1.objs.size = some (seqObj "list" (List.toArray out) c) → KeyedOut false kz vs out → Q (.ref h1.objs.size) { s' with heap := h', toks := tk })) :
    wpAny (model prog w) A (call (.builtin "sorted") [.ref l] [(Str.ofString "key", f)]) Q E s := by
  refine call_function_entry_kw kind_sorted plain_sorted entry_sorted (ksk_s1 _ _) ?_
  unfold Builtin.«sorted»
  refine wpAny_bind (m := checkCount "sorted" 1 1 _) (wpAny_pure ?_)
  refine wpAny_bind (wpAny_collect_seq l hT ho hc hd (fun h1 k1 => ?_) (by rw [List.size_toArray]; exact hZ))
  have ev : vs.toArray.toList = vs := by simp
  rw [ev]
  refine wpAny_bind (wpAny_newList ?_ hZ)
  have hoL : (h1.push (seqObj "list" vs.toArray 0)).get? h1.objs.size = some (seqObj "list" vs.toArray 0) := Heap.get?_push_size _ rfl
  show wpAny _ _ _ _ _ { s with heap := h1.push (seqObj "list" vs.toArray 0) }
  refine wpAny_bind (wpAny_holding (wpAny_call_entry_kw slot_list_sort ⟨_, hoL, rfl⟩ entry_list_sort ?body (ksk_l1 _ _)))
  case body =>
    show wpAny (model prog w) A.in1.in1 (Builtin.«list.sort» ⟨[.ref h1.objs.size], [(Str.ofString "key", f)]⟩) _ _ _
    rw [ht]
    obtain ⟨e1, ho1⟩ : ∃ e1, ((h1.push (seqObj "list" vs.toArray 0)).update h1.objs.size (Obj.mapSeq fun _ => (#[] : Array Value))).get? h1.objs.size = some (seqObj "list" #[] e1) := ⟨_, get?_update_seq hoL fun _ => #[]⟩
    have hkS : (((h1.push (seqObj "list" vs.toArray 0)).update h1.objs.size (Obj.mapSeq fun _ => (#[] : Array Value))).push (seqObj "tuple" vs.toArray 0)).objs.size = h1.objs.size + 2 := by rw [size_push', Heap.size_update, size_push']
    have hk3 : ((((h1.push (seqObj "list" vs.toArray 0)).update h1.objs.size (Obj.mapSeq fun _ => (#[] : Array Value))).push (seqObj "tuple" vs.toArray 0)).push (seqObj "list" #[] 0)).objs.size = h1.objs.size + 3 := by rw [size_push', hkS]
    unfold ksk_tree
    refine wpAny_bind (listItems_at hoL rfl ?_)
    refine wpAny_bind (listUpdate_at hoL rfl ?_ (by rw [List.size_toArray]; exact hZ) (Nat.zero_le _))
    refine wpAny_bind (seqEpoch_at ho1 rfl ?_)
    refine wpAny_bind (wpAny_newTuple ?_ (by show vs.length ≤ _; exact hZ))
    refine wpAny_bind (wpAny_newList ?_ (Nat.zero_le _))
    refine wpAny_holding ?_
    have sb := Heap.SameBut.update (h1.push (seqObj "list" vs.toArray 0)) h1.objs.size (Obj.mapSeq fun _ => (#[] : Array Value))
    have k2 : ∀ b o, h1.get? b = some o → ((((h1.push (seqObj "list" vs.toArray 0)).update h1.objs.size (Obj.mapSeq fun _ => (#[] : Array Value))).push (seqObj "tuple" vs.toArray 0)).push (seqObj "list" #[] 0)).get? b = some o := fun b o q =>
      Heap.get?_push_of_some _ (Heap.get?_push_of_some _ ((sb.2 b (Nat.ne_of_lt (Heap.lt_size q))).trans (Heap.get?_push_of_some _ q)))
    obtain ⟨J, j0, j1, j2, j3⟩ := h h1 _ (((h1.push (seqObj "list" vs.toArray 0)).update h1.objs.size (Obj.mapSeq fun _ => (#[] : Array Value))).push (seqObj "tuple" vs.toArray 0)).objs.size e1 k1 k2 (by rw [hkS]; exact Nat.lt_add_of_pos_right (by decide)) (by rw [hk3]; exact Nat.lt_add_of_pos_right (by decide)) (by rw [hk3, hkS]; exact Nat.lt_succ_self _)
      (Heap.get?_push_of_some _ (Heap.get?_push_of_some _ ho1)) (Heap.get?_push_size _ rfl)
    refine den_key_rest (s := { s with heap := (((h1.push (seqObj "list" vs.toArray 0)).update h1.objs.size (Obj.mapSeq fun _ => (#[] : Array Value))).push (seqObj "tuple" vs.toArray 0)).push (seqObj "list" #[] 0) }) J (by rw [hkS]; exact Nat.ne_of_gt (Nat.lt_add_of_pos_right (by decide))) hZ j0 j1 j2 fun kA s' hj => ?_
    obtain ⟨kz, K, hq⟩ := j3 kA s' hj
    exact ⟨kz, K, fun h' tk out c a1 a2 a3 => ⟨.none, rfl, wpAny_pure ⟨_, rfl, hq h' tk out c a1 a2 a3⟩⟩⟩
end
end PySem.W
/-! DenW: a lambda of one parameter as a key: made, called; sorted(xs, key=lambda x: ..) -/
namespace Den
open PySem PySem.Spec PyProof.Rows L2 LamX
structure LamP (N : List Str) (sc scope : Scope) (x : Str) (ix : Nat) : Prop where
  blk : BlkOk N sc scope [(x, ix)]
  co : scope.isCoroutine = false
  gen : scope.isGenerator = false
  cell : ∀ y ∈ scope.names, y.2 ≠ .cell
  loc : scope.names.lookup x = some .local
/-- the table at P has grown by code objects of the name q -/
def Grown (P : Addr) (q : Str) (H H1 : Hp) : Prop := TabS H1 P q ∧ ∀ b o, b ≠ P → H b = some o → H1 b = some o
theorem among_more {pos : Pos} {c : Value} (m : List Value) : ∀ {l : List Value}, codeAmong pos l = some c → codeAmong pos (l ++ m) = some c := by
  intro l h
  fun_induction codeAmong pos l with
  | case1 line _ col _ c' rest hc =>
    simp only [List.cons_append, codeAmong]
    rw [if_pos hc]
    exact h
  | case2 line _ col _ c' rest hc ih =>
    simp only [List.cons_append, codeAmong]
    rw [if_neg hc]
    exact ih h
  | case3 => cases h
abbrev lamX (X : Cx) (s : Shared) (H : Hp) (scope : Scope) (f c' : Addr) : Cx :=
  { prog := X.prog, w := X.w, K := X.K, mg := X.mg, base := X.base, A := X.A.in1.in1.deeper (lamEnv X scope s.heap.objs.size f c'), N := X.N, s_0 := s, H_0 := H, env := lamEnv X scope s.heap.objs.size f c', outer := X.stack, stack := lamEnv X scope s.heap.objs.size f c' :: X.stack, ex := [], fn := fun _ => false, calm := true, pn := [], xe := fun _ _ => False }
theorem room_lam {k : Nat} {X : Cx} {s : Shared} {H : Hp} {scope : Scope} {f c' : Addr} (r : Room (k + 1) X.A) : Room k (lamX X s H scope f c').A :=
  ⟨r.hd, by have := r.dp; show X.A.depth + 1 + 3 * k + 5 < _; omega, by have := r.un; show X.A.units + 1 + 1 + 3 + 16 * k + 200 < _; omega⟩
section
variable {X : Cx} {pins : List (Addr × Obj)} {σ : L2.St} {H : Hp} {s : Shared}
theorem lam_start3 {scope : Scope} {x : Str} {ix : Nat} {f c' : Addr} {v : V} {u : Value} {h₁ : Heap} {tk : Nat} (I : Inv X pins σ H s) (hc : X.A.handled = none) (L : LamP X.N X.env.scope scope x ix) (hN : X.N.Nodup) (rv : RelV v u)
    (hns : h₁.Ns s.heap.objs.size fun y => [(x, u)].reverse.lookup y) (kp : ∀ b o, s.heap.get? b = some o → h₁.get? b = some o) :
    Inv (lamX X s H scope f c') [] ((wipe σ [ix]).set ix (some v)) H { s with heap := h₁, toks := tk } := by
  have hix : X.N[ix]? = some x := L.blk.ix (x, ix) List.mem_cons_self
  have hfree : ∀ y ∈ scope.names, y.2 = .free → ∃ c, X.env.cells.lookup y.1 = some c := fun y hy e => by
    rcases L.blk.free y hy e with k | k
    · exact I.ok.has _ (.inl k)
    · exact I.ok.has _ (.inr k)
  have cm : ∀ {y c}, (cloFrom X.env.cells scope.names []).lookup y = some c → X.env.cells.lookup y = some c := fun {y c} e => by
    rcases cloFrom_mem (PySem.mem_of_lookup e) with hm | ⟨h1, h2⟩
    · cases hm
    · obtain ⟨c1, hc⟩ := hfree _ h1 rfl
      have hc : X.env.cells.lookup y = some c1 := hc
      have e2 : c = c1 := by rw [h2, hc] <;> rfl
      rw [e2]; exact hc
  have look : ∀ {y}, scope.names.lookup y = some .free → ∃ c, (cloFrom X.env.cells scope.names []).lookup y = some c := fun {y} hl => by
    have hy : (y, NameKind.free) ∈ scope.names := PySem.mem_of_lookup hl
    exact mem_lookup (cloFrom_has (cells := X.env.cells) (acc := []) hy)
  have e0 := I.env0
  have noA : ∀ b : Addr, b ∉ (lamX X s H scope f c').ex := fun b z => absurd (show b ∈ ([] : List Addr) from z) (by simp)
  refine ⟨⟨e0.mod, L.blk.kind, rfl, rfl, Nat.le_refl _, fun y z c e1 e2 => I.ok.inj y z c (cm e1) (cm e2), fun y hy => ?_, fun y c z _ => ?_, fun _ => hc, Around.frames_deeper e0.frames, .inr ⟨rfl, rfl⟩, fun b z => absurd z (noA b), e0.bs, e0.bsz, fun b _ _ => noA b,
      fun b z => absurd z (noA b), e0.funs, e0.frf⟩,
    rfl, e0.bare, Un.kept kp, ⟨_, hns, fun i y w e1 e2 e3 => ?_⟩, fun y c e => ?_, e0.hok.fresh (Nat.le_refl _), fun y c e => ?_, fun q hq => absurd (show q ∈ ([] : List (Addr × Obj)) ++ [] from hq) (by simp), e0.hok.kept kp, by rw [List.length_set, wipe_length]; exact I.len⟩
  · have hy : scope.names.lookup y = some .cell ∨ scope.names.lookup y = some .free := hy
    rcases hy with hy | hy
    · exact absurd rfl (L.cell _ (PySem.mem_of_lookup hy))
    · exact look hy
  · have z : false = true := z
    cases z
  · have e3 : Vis scope y := e3
    by_cases hi : ix = i
    · subst hi
      have ey : y = x := by
        have e1 : X.N[ix]? = some y := e1
        rw [hix] at e1; exact (Option.some.inj e1).symm
      subst ey
      have hlt : ix < (wipe σ [ix]).length := by
        rw [wipe_length, I.len]
        exact (List.getElem?_eq_some_iff.mp hix).1
      rw [List.getElem?_set_self hlt] at e2
      cases e2
      exact ⟨u, rv, .inl ⟨L.loc, by simp⟩⟩
    · rw [List.getElem?_set_ne hi] at e2
      obtain ⟨e2, hne⟩ := wipe_some e2
      have no : ∀ k, scope.names.lookup y = some k → ¬ (k = .local ∨ k = .cell) := fun k e hh => by
        rcases L.blk.own _ (PySem.mem_of_lookup e) hh with e' | e'
        · have : y = x := by simpa using e'
          subst this
          exact hi (nodup_ix hN hix e1)
        · exact e' (List.mem_of_getElem? e1)
      have hfr : scope.names.lookup y = some .free := by
        rcases e3 with e3 | e3 | e3
        · exact absurd (.inl rfl) (no _ e3)
        · exact absurd (.inr rfl) (no _ e3)
        · exact e3
      obtain ⟨m, hn, hl⟩ := I.loc
      have hvis : Vis X.env.scope y := (L.blk.free _ (PySem.mem_of_lookup hfr) rfl).elim (fun k => .inr (.inl k)) (fun k => .inr (.inr k))
      obtain ⟨w', r, q⟩ := hl i y w e1 e2 hvis
      obtain ⟨c2, h2⟩ := look hfr
      refine ⟨w', r, .inr ⟨.inr hfr, c2, h2, ?_⟩⟩
      have c1 := cm h2
      rcases q with ⟨k', _⟩ | ⟨_, c3, e', z⟩
      · have k' : X.env.scope.names.lookup y = some .local := k'
        rcases L.blk.free _ (PySem.mem_of_lookup hfr) rfl with k2 | k2 <;> rw [show X.env.scope.names.lookup y = _ from k2] at k' <;> cases k'
      · rw [c1] at e'; cases e'
        exact z.keeps kp
  · obtain ⟨w', z⟩ := I.cell y c (cm e)
    exact ⟨w', z.keeps kp⟩
  · exact I.freeC y c (cm e)
theorem lam_make3 {c P : Addr} {params : Arguments} {body : Expr} {scope : Scope} {pos : Pos} {E : Value → Shared → Prop} {Q : Value → Shared → Prop} (I : Inv X pins σ H s) (TB : LamX.TabB X.base X.mg c P) (hcode : X.env.code = .ref c)
    (hT : TabS H P (X.env.qual ++ "<lambda>")) (hdef : defaultsOf params X.env = ([], [])) (hfree : ∀ y ∈ scope.names, y.2 = .free → ∃ c, X.env.cells.lookup y.1 = some c)
    (h : ∀ (f c' : Addr) (pm ctv : Value) (H1 : Hp) (s' : Shared) (ps : Array Value), Inv X pins σ H1 s' → Grown P (X.env.qual ++ "<lambda>") H H1 → H1 P = some (.tbl ps) → codeAmong pos ps.toList = some (.ref c') →
      s'.heap.get? f = some (PySem.W.kla_obj "<lambda>" (X.env.qual ++ "<lambda>") params body scope (cloFrom X.env.cells scope.names []) pm c' ctv) → FpOk X pins H1 f → Q (.ref f) s') :
    wpAny (model X.prog X.w) X.A (eval (.Lambda params body scope pos) X.env) Q E s := by
  obtain ⟨ps, hP, ht, ha⟩ := hT
  refine PySem.W.kla_eval hdef ?_
  have bP : s.heap.BuiltinsAt X.mg P := TB.bm.keeps I.bk
  have hP' : s.heap.get? P = some { cls := .none, data := .fields ps } := I.hok P _ hP
  cases hc : codeAmong pos ps.toList with
  | none =>
    refine PySem.W.kla_makeFunction (mg := X.mg) (c := c) (P := P) (ps := ps) (closure_ok hfree) I.ok.glob (I.mod.glob.keeps I.bk) hcode (TB.code.keeps I.bk) hP' ht hc TB.gP bP fun c' ctv h' tk hx hge hlt hrec htb => ?_
    obtain ⟨c2, oc, vs, t, e2, hoc, hd, hv⟩ := hrec
    cases e2
    have hsz : s.heap.objs.size ≤ h'.objs.size := Nat.le_trans hge (Nat.le_of_lt hlt)
    have nC : H c' = none := I.hok.fresh hge
    have I1 := inv_table (t' := tk) (more := #[rawInt pos.line, rawInt pos.col, .ref c']) (h' := h'.push (PySem.W.kla_obj "<lambda>" (X.env.qual ++ "<lambda>") params body scope (cloFrom X.env.cells scope.names []) ((X.mg "__name__").getD .none) c' ctv)) I hP
      (fun b o hb e => Heap.get?_push_of_some _ (hx b o hb e)) (Heap.get?_push_of_some _ htb) hge ⟨oc, vs, t, Heap.get?_push_of_some _ hoc, hd, hv⟩
    have hE : ∀ b o, b ≠ P → H b = some o → (upd (upd H P (.tbl (ps ++ #[rawInt pos.line, rawInt pos.col, .ref c']))) c' (CodeO c' (X.env.qual ++ "<lambda>"))) b = some o := fun b o hb e => by
      rw [upd_ne (ne_of_none e nC), upd_ne hb]
      exact e
    have eL : (ps ++ #[rawInt pos.line, rawInt pos.col, .ref c']).toList = ps.toList ++ [rawInt pos.line, rawInt pos.col, .ref c'] := by simp
    have eP : (upd (upd H P (.tbl (ps ++ #[rawInt pos.line, rawInt pos.col, .ref c']))) c' (CodeO c' (X.env.qual ++ "<lambda>"))) P = some (.tbl (ps ++ #[rawInt pos.line, rawInt pos.col, .ref c'])) := by rw [upd_ne (ne_of_none hP nC), upd_same]
    have nF : (upd (upd H P (.tbl (ps ++ #[rawInt pos.line, rawInt pos.col, .ref c']))) c' (CodeO c' (X.env.qual ++ "<lambda>"))) h'.objs.size = none := by
      have n1 : h'.objs.size ≠ c' := Nat.ne_of_gt hlt
      have n2 : h'.objs.size ≠ P := Nat.ne_of_gt (Nat.lt_of_lt_of_le (Heap.lt_size hP') hsz)
      rw [upd_ne n1, upd_ne n2]
      exact I.hok.fresh hsz
    refine h h'.objs.size c' ((X.mg "__name__").getD .none) ctv _ _ _ I1 ⟨⟨_, eP, by rw [eL]; exact PySem.TriplesOk_snoc _ _ _ _ ht, fun p' cv hcv => ?_⟩, hE⟩ eP (by rw [eL]; exact PySem.codeAmong_snoc _ ht hc) (Heap.get?_push_size _ rfl) (I.fpOk hsz nF)
    rw [eL] at hcv
    rcases among_app _ ht hcv with z | z
    · obtain ⟨c0, e1, e2⟩ := ha p' cv z
      exact ⟨c0, e1, hE _ _ (fun z => by rw [z, hP] at e2; cases e2) e2⟩
    · exact ⟨c', z, upd_same⟩
  | some cv =>
    obtain ⟨c', e, hco⟩ := ha pos cv hc
    subst e
    refine PySem.W.kla_makeFunctionHit (mg := X.mg) (c := c) (P := P) (ps := ps) (closure_ok hfree) I.ok.glob (I.mod.glob.keeps I.bk) hcode (TB.code.keeps I.bk) hP' ht hc bP fun ctv h' tk hx hsz => ?_
    have I1 : Inv X pins σ H { s with heap := h'.push (PySem.W.kla_obj "<lambda>" (X.env.qual ++ "<lambda>") params body scope (cloFrom X.env.cells scope.names []) ((X.mg "__name__").getD .none) c' ctv), toks := tk } := I.kept fun b o e => Heap.get?_push_of_some _ (hx b o e)
    exact h h'.objs.size c' ((X.mg "__name__").getD .none) ctv H _ ps I1 ⟨⟨ps, hP, ht, ha⟩, fun _ _ _ e => e⟩ hP hc (Heap.get?_push_size _ rfl) (I.fpOk hsz (I.hok.fresh hsz))
/-- behind the lambda's call -/
def LamEnd (X : Cx) (pins : List (Addr × Obj)) (σ : L2.St) (H : Hp) (Q : VK) (u : Value) (s' : Shared) : Prop := ∃ y H', Inv X pins σ H' s' ∧ RelV y u ∧ Q y H' ∧ ∀ b ps, H b = some (.tbl ps) → ∃ more, H' b = some (.tbl (ps ++ more))
/-- the lambda called with one value, in a built-in's call in a built-in's call -/
theorem lam_call {scope : Scope} {x : Str} {ix k : Nat} {f c' : Addr} {pm ctv : Value} {params : Arguments} {body : Expr} {v : V} {u : Value} {tb : TE} {Q : VK} (I : Inv X pins σ H s) (hr : Room (k + 1) X.A) (hN : X.N.Nodup) (L : LamP X.N X.env.scope scope x ix) (rv : RelV v u)
    (hf : s.heap.get? f = some (PySem.W.kla_obj "<lambda>" (X.env.qual ++ "<lambda>") params body scope (cloFrom X.env.cells scope.names []) pm c' ctv)) (hco : H c' = some (CodeO c' (X.env.qual ++ "<lambda>")))
    (hbind : bindArgs (PySem.W.kla_fn "<lambda>" (X.env.qual ++ "<lambda>") params body scope (cloFrom X.env.cells scope.names []) pm (.ref c') ctv) ⟨[u], []⟩ = pure [(x, u)])
    (hbody : PE (lamX X s H scope f c') body tb) (h : tb ((wipe σ [ix]).set ix (some v)) H Q) :
    wpAny (model X.prog X.w) X.A.in1.in1 (call (.ref f) [u]) (LamEnd X pins σ H Q) (fun _ _ => False) s := by
  obtain ⟨⟨oc, vs, t, hoc, hdc, hvc⟩, _, _⟩ := I.hok c' _ hco
  have rc : codeAny (model X.prog X.w) X.A.in1.in1 (.call (.ref f) ⟨[u], []⟩) (fun r s' => match r with
    | .ok (.ret y) => LamEnd X pins σ H Q y s'
    | .ok _ => False
    | .error _ => False) s := by
    refine PySem.W.kla_callFunE (by have := hr.dp; show X.A.depth < _; omega) hf rfl L.co L.gen rfl ⟨c', oc, vs, t, rfl, hoc, hdc, hvc⟩ ?_
    rw [hbind]
    refine wpAny_pure (wpAny_newFunctionEnv L.cell (fun y hy => by rw [List.mem_singleton.mp hy]; exact L.loc) (fun h₁ hns hsb => ⟨I.nolimit.fresh _ hsb, ?_⟩) L.blk.kind)
    show codeAny _ _ (.expr body (lamEnv X scope s.heap.objs.size f c')) _ _
    have kp : ∀ b o, s.heap.get? b = some o → h₁.get? b = some o := fun b o e => hsb.extBut b o (Nat.ne_of_lt (Heap.lt_size e)) (Heap.get?_push_of_some _ e)
    have J := lam_start3 (f := f) (c' := c') (tk := s.toks + [(x, u)].length) I hr.hd L hN rv hns kp
    refine PySem.W.kla_codeExpr (wpAny_mono (hbody.run [] _ _ H Q J h) (fun y s' hq => ?_) fun e s' hq => hq.elim)
    obtain ⟨w', H', J', ry, q⟩ := hq
    exact ⟨w', H', I.call' (ch := []) J'.os J'.base J'.hok J'.bare (fun b hb => absurd hb (by simp)), ry, q, J'.base.tbls⟩
  refine wpAny_call (codeAny_mono rc fun r s' hq => ?_)
  cases r with
  | error e => exact hq.elim
  | ok fl =>
    cases fl with
    | ret y => exact hq
    | next => exact hq.elim
    | brk => exact hq.elim
    | cont => exact hq.elim
end
end Den
/-! DenX: sorted(xs, key=lambda x: ..) -/
namespace Den
open PySem PySem.Spec PyProof.Rows L2 LamX
theorem Grown.seqL {K : PySem.W.Frag} {P : Addr} {q : Str} {H H1 : Hp} {a : Addr} {xs : List V} (g : Grown P q H H1) (t : TabS H P q) (h : SqL K H a xs) : SqL K H1 a xs := by
  obtain ⟨ps, e, _⟩ := t
  rcases h with (h | ⟨o, h⟩) | h
  · exact .inl (.inl (g.2 a _ (fun z => by rw [z, e] at h; cases h) h))
  · exact .inl (.inr ⟨o, g.2 a _ (fun z => by rw [z, e] at h; cases h) h⟩)
  · exact .inr h
theorem Grown.seqT {K : PySem.W.Frag} {P : Addr} {q : Str} {H H1 : Hp} {a : Addr} {xs : List V} (g : Grown P q H H1) (t : TabS H P q) (h : SqT K H a xs) : SqT K H1 a xs := by
  obtain ⟨ps, e, _⟩ := t
  rcases h with (h | ⟨o, h⟩) | h
  · exact .inl (.inl (g.2 a _ (fun z => by rw [z, e] at h; cases h) h))
  · exact .inl (.inr ⟨o, g.2 a _ (fun z => by rw [z, e] at h; cases h) h⟩)
  · exact .inr h
def keyLe : V × PyData → V × PyData → Bool := PySem.W.dataLe false (·.2)
/-- what is wanted of the source's value -/
def SortKR (K : PySem.W.Frag) (P : Addr) (q : Str) (ix : Nat) (tb : TE) (σ : L2.St) (Q : VK) (v : V) (H1 : Hp) : Prop := ∃ (a : Addr) (xs : List V), v = .ref a ∧ (SqL K H1 a xs ∨ SqT K H1 a xs) ∧ TabS H1 P q ∧ ∀ H2, Grown P q H1 H2 →
  ∃ W : Nat → List V → Hp → Prop, W 0 [] H2 ∧ (∀ i kvs H', W i kvs H' → TabS H' P q) ∧ (∀ i x kvs H', xs[i]? = some x → W i kvs H' → tb ((wipe σ [ix]).set ix (some x)) H' fun y H'' => W (i + 1) (kvs ++ [y]) H'') ∧
    ∀ kvs H', W xs.length kvs H' → ∃ ks : List PyData, kvs.length = ks.length ∧ (∀ z ∈ kvs.zip ks, Dp K H' z.1 z.2) ∧ PySem.W.AllAlike ks ∧ PySem.W.Sortable ks ∧ (∀ d ∈ ks, d.depth ≤ 64) ∧
      ∀ p, H' p = none → Q (.ref p) (upd H' p (.lst (((xs.zip ks).mergeSort keyLe).map (·.1))))
def tSortK (K : PySem.W.Frag) (P : Addr) (q : Str) (ix : Nat) (te tb : TE) : TE := fun σ H Q => te σ H (SortKR K P q ix tb σ Q)
theorem each_vals : ∀ {bs : List (V × PyData)} {out : List Value}, PySem.W.EachIs (fun u (z : V × PyData) => RelV z.1 u) out bs → Vals (bs.map (·.1)) out
  | _, _, .nil => .nil
  | _, _, .cons h t => .cons h (each_vals t)
theorem each_zip : ∀ {xs : List V} {us : List Value} {ks : List PyData}, Vals xs us → xs.length = ks.length → PySem.W.EachIs (fun u (z : V × PyData) => RelV z.1 u) us (xs.zip ks)
  | _, _, [], .nil, _ => .nil
  | _, _, k :: ks, .cons h t, e => .cons h (each_zip t (by simpa using e))
  | _, _, _ :: _, .nil, e => by simp at e
  | _, _, [], .cons _ _, e => by simp at e
section
variable {X : Cx}
theorem each_reads {pins : List (Addr × Obj)} {σ : L2.St} {H : Hp} {s : Shared} (I : Inv X pins σ H s) : ∀ {kvs : List V} {kA : List Value} {ks : List PyData}, Vals kvs kA → kvs.length = ks.length → (∀ z ∈ kvs.zip ks, Dp X.K H z.1 z.2) → PySem.W.EachIs (fun v k => ∃ as, Reads s.heap v k as) kA ks
  | _, _, [], .nil, _, _ => .nil
  | _, _, k :: ks, .cons h t, e, hz => .cons (Dp.reads I k _ _ (hz _ List.mem_cons_self) h) (each_reads I t (by simpa using e) fun z hz' => hz z (List.mem_cons_of_mem _ hz'))
  | _, _, _ :: _, .nil, e, _ => by simp at e
  | _, _, [], .cons _ _, e, _ => by simp at e
variable {e body : Expr} {params : Arguments} {scope : Scope} {x : Str} {ix k : Nat} {cc P : Addr} {te tb : TE} {p pos lpos kpos : Pos}
theorem pe_sortKey (hr : Room (k + 2) X.A) (hN : X.N.Nodup) (hg : Gl X "sorted") (hm : X.mg "sorted" = none) (hv : bootBuiltins "sorted" = some (.builtin "sorted")) (TB : LamX.TabB X.base X.mg cc P) (hcode : X.env.code = .ref cc) (L : LamP X.N X.env.scope scope x ix)
    (hdef : defaultsOf params X.env = ([], [])) (hbind : ∀ (cl : List (Str × Addr)) (pm ctv : Value) (c' : Addr) (u : Value), bindArgs (PySem.W.kla_fn "<lambda>" (X.env.qual ++ "<lambda>") params body scope cl pm (.ref c') ctv) ⟨[u], []⟩ = pure [(x, u)]) (he : PE X e te)
    (hbody : ∀ (s : Shared) (H : Hp) (f c' : Addr), PE (lamX X s H scope f c') body tb)
    (hs : starEach [e] X.env = (false, eval e X.env) :: starEach [] X.env := by rfl)
    (hs2 : backTo pos (starEach [e] X.env) = (false, eval e X.env) :: backTo pos (starEach [] X.env) := by rfl) (hpl : (backTo pos (starEach [e] X.env)).any (·.1) = false := by rfl)
    (hall : (backToKw pos (keywordEach [⟨some "key", .Lambda params body scope lpos, kpos⟩] X.env)).all (·.1.isSome) = true := by rfl) (hnone : (backToKw pos (keywordEach [⟨some "key", .Lambda params body scope lpos, kpos⟩] X.env)).any (·.1.isNone) = false := by rfl)
    (hks : (backToKw pos (keywordEach [⟨some "key", .Lambda params body scope lpos, kpos⟩] X.env)).filterMap (·.1) = [Str.ofString "key"] := by rfl) :
    PE X (.Call (.Name "sorted" p) [e] [⟨some "key", .Lambda params body scope lpos, kpos⟩] pos) (tSortK X.K P (X.env.qual ++ "<lambda>") ix te tb) := by
  refine ⟨fun pins s σ H Q I h => ?_⟩
  refine wpAny_Call_Name_kw (ld_blt I hg hm hv ?_ (by decide) (by decide))
  refine PyProof.Rows.callWith_kw (args_cons (thn (he.run pins s σ H _ I h) fun av s1 ⟨v, H1, I1, r1, a, xs, ea, hsrc, hT, q1⟩ => args_nil ?_) hs) hs2 hpl hall hnone
  subst ea
  obtain rfl : av = Value.ref a := r1
  have hfree : ∀ y ∈ scope.names, y.2 = .free → ∃ c, X.env.cells.lookup y.1 = some c := fun y hy e => by
    rcases L.blk.free y hy e with k | k
    · exact I1.ok.has _ (.inl k)
    · exact I1.ok.has _ (.inr k)
  rw [hks]
  show wpAny _ _ (evalAll ((do let v ← eval (.Lambda params body scope lpos) X.env; standAt pos; pure v) :: [])) _ _ s1
  refine wpAny_evalAll_cons (wpAny_bind (lam_make3 I1 TB hcode hT hdef hfree fun f c' pm ctv H2 s2 ps I2 G2 eP ec hf fpf => wpAny_bind (wpAny_standAt (wpAny_pure (wpAny_evalAll_nil ?_)))))
  obtain ⟨W, w0, wT, wS, wE⟩ := q1 H2 G2
  have src : ∃ (its : List Value) (T : String) (o : Obj) (n : Nat), Vals xs its ∧ xs.length ≤ sizeLine ∧ (T = "list" ∨ T = "tuple") ∧ s2.heap.get? a = some o ∧ o.cls = .type T ∧ o.data = .seq its.toArray n := by
    rcases hsrc with hq | hq
    · obtain ⟨its, rv, hl, hz⟩ := I2.list (G2.seqL hT hq)
      obtain ⟨o, ho, hc, n, hd⟩ := hl.isList
      exact ⟨its, "list", o, n, rv, hz, .inl rfl, ho, hc, hd⟩
    · obtain ⟨its, rv, hl, hz⟩ := I2.tuple (G2.seqT hT hq)
      obtain ⟨o, ho, hc, n, hd⟩ := (show s2.heap.IsTuple a its.toArray from hl)
      exact ⟨its, "tuple", o, n, rv, hz, .inr rfl, ho, hc, hd⟩
  obtain ⟨its, T, o, n, rv, hz, hTy, ho, hc, hd⟩ := src
  have hlen := rv.length
  refine PySem.W.den_sorted_key hTy ho hc hd (by rw [← hlen]; exact hz) (fun x => PyProof.Rows.ksk_t1 f x) fun h1 h2 kS e1 k1 k2 lt1 lt2 lt3 a0 hk0 => ?_
  have I2a : Inv X pins σ H2 { s2 with heap := h1 } := I2.kept (t' := s2.toks) k1
  have I3 : Inv X pins σ H2 { s2 with heap := h2 } := I2.kept (t' := s2.toks) fun b o e => k2 b o (k1 b o e)
  have fpA : FpOk X pins H2 h1.objs.size := I2a.fpOk (Nat.le_refl _) (I2a.hok.fresh (Nat.le_refl _))
  have fpK : FpOk X pins H2 kS := I2a.fpOk (Nat.le_of_lt lt1) (I2a.hok.fresh (Nat.le_of_lt lt1))
  have fA : h1.objs.size ≠ kS := Nat.ne_of_lt lt1
  have hfl : f < h1.objs.size := Heap.lt_size (k1 _ _ hf)
  have fF : f ≠ kS := Nat.ne_of_lt (Nat.lt_trans hfl lt1)
  have fFA : f ≠ h1.objs.size := Nat.ne_of_lt hfl
  generalize hfo : PySem.W.kla_obj "<lambda>" (X.env.qual ++ "<lambda>") params body scope (cloFrom X.env.cells scope.names []) pm c' ctv = fo at hf
  have fnc : ∀ v, fo.data ≠ .cell v := fun v z => by rw [← hfo] at z; cases z
  have rest : ∀ {σ' : L2.St} {H' : Hp} {s' : Shared} {oK oA : Obj}, Inv X ((kS, oK) :: (h1.objs.size, oA) :: (f, fo) :: pins) σ' H' s' → Inv X ((h1.objs.size, oA) :: (f, fo) :: pins) σ' H' s' := fun I' => I'.pins_of fun p hp => I'.pin p (List.mem_append_right _ (List.mem_cons_of_mem _ hp))
  refine ⟨fun i kA s' => kA.length = i ∧ ∃ (e : Nat) (H' : Hp) (kvs : List V) (ps' : Array Value), Inv X ((kS, seqObj "list" kA.toArray e) :: (h1.objs.size, seqObj "list" #[] e1) :: (f, fo) :: pins) σ H' s' ∧ Vals kvs kA ∧ H' P = some (.tbl ps') ∧ codeAmong lpos ps'.toList = some (.ref c') ∧ W i kvs H', ?_, ?_, ?_, ?_⟩
  · refine ⟨rfl, 0, H2, [], ps, I3.pins_of fun p hp => ?_, .nil, eP, ec, w0⟩
    rcases List.mem_cons.mp hp with rfl | hp
    · exact ⟨hk0, fpK.1, fpK.2.1, fpK.2.2.1, fun v z => by cases z⟩
    · rcases List.mem_cons.mp hp with rfl | hp
      · exact ⟨a0, fpA.1, fpA.2.1, fpA.2.2.1, fun v z => by cases z⟩
      · rcases List.mem_cons.mp hp with rfl | hp
        · exact ⟨k2 _ _ (k1 _ _ hf), fpf.1, fpf.2.1, fpf.2.2.1, fnc⟩
        · exact I3.pin p (List.mem_append_right _ hp)
  · rintro i kA s' ⟨hl, e, H', kvs, ps', I', _⟩
    exact ⟨hl, ⟨e, (I'.pin (kS, _) (List.mem_append_right _ List.mem_cons_self)).1⟩, (I'.pin (h1.objs.size, _) (List.mem_append_right _ (List.mem_cons_of_mem _ List.mem_cons_self))).1⟩
  · rintro i u kA s' hu ⟨hl, e, H', kvs, ps', I', rk, eP', ec', w'⟩
    have hi : i < xs.length := by rw [hlen]; exact (List.getElem?_eq_some_iff.mp hu).1
    obtain ⟨u', hu', ru⟩ := rv.get (List.getElem?_eq_getElem hi)
    rw [hu] at hu'; cases hu'
    have hf' := (I'.pin (f, fo) (List.mem_append_right _ (List.mem_cons_of_mem _ (List.mem_cons_of_mem _ List.mem_cons_self)))).1
    obtain ⟨ps'', e'', _, ha''⟩ := wT i kvs H' w'
    rw [eP'] at e''; cases e''
    obtain ⟨c0, ec0, hco⟩ := ha'' lpos _ ec'
    cases ec0
    refine wpAny_mono (lam_call (k := k + 1) I' hr hN L ru (by rw [hfo]; exact hf') hco (hbind _ _ _ _ _) (hbody s' H' f c') (wS i _ kvs H' (List.getElem?_eq_getElem hi) w')) (fun kv s'' hq => ?_) fun _ _ z => z
    obtain ⟨y, H'', I'', ry, w'', tb''⟩ := hq
    obtain ⟨more, eP''⟩ := tb'' P ps' eP'
    refine ⟨⟨e, (I''.pin (kS, _) (List.mem_append_right _ List.mem_cons_self)).1⟩, fun h' sb ⟨e', hk'⟩ => ⟨by rw [List.length_append, hl]; rfl, e', H'', kvs ++ [y], ps' ++ more, ?_, rk.append (.cons ry .nil), eP'', by rw [Array.toList_append]; exact among_more _ ec', w''⟩⟩
    have pK := I''.pin (kS, _) (List.mem_append_right _ List.mem_cons_self)
    have I4 : Inv X ((h1.objs.size, seqObj "list" #[] e1) :: (f, fo) :: pins) σ H'' { s'' with heap := h', toks := s''.toks } := (rest I'').turned (t' := s''.toks) (it := kS) (fun b o hb q => (sb.2 b hb).trans q) pK.2.1 pK.2.2.1 fpK.2.2.2.1 fpK.2.2.2.2.1 (fun p hp => by
      rcases List.mem_append.mp hp with hp | hp
      · exact fpK.2.2.2.2.2 p (List.mem_append_left _ hp)
      · rcases List.mem_cons.mp hp with rfl | hp
        · exact fA
        · rcases List.mem_cons.mp hp with rfl | hp
          · exact fF
          · exact fpK.2.2.2.2.2 p (List.mem_append_right _ hp))
    refine I4.pins_of fun p hp => ?_
    rcases List.mem_cons.mp hp with rfl | hp
    · exact ⟨hk', pK.2.1, pK.2.2.1, pK.2.2.2.1, fun v z => by cases z⟩
    · exact I4.pin p (List.mem_append_right _ hp)
  · rintro kA s' ⟨hl, e, H', kvs, ps', I', rk, eP', ec', w'⟩
    rw [← hlen] at w'
    obtain ⟨ks, l1, dp, al, so, dep, fin⟩ := wE kvs H' w'
    have pK := I'.pin (kS, _) (List.mem_append_right _ List.mem_cons_self)
    have pA := I'.pin (h1.objs.size, _) (List.mem_append_right _ (List.mem_cons_of_mem _ List.mem_cons_self))
    have l2 : xs.length = ks.length := by rw [hlen, ← hl, ← rk.length, l1]
    refine ⟨ks, ⟨each_reads I' rk l1 dp, al, so, fun d hd => ?_⟩, fun h' tk out c kp hA ko => ?_⟩
    · have := dep d hd
      have := hr.un
      show X.A.units + 1 + 1 + d.depth < _
      omega
    · have em : (xs.zip ks).map Prod.snd = ks := List.map_snd_zip (by omega)
      have ez := each_zip rv l2
      rw [← em] at ko
      have eo := PySem.W.keyedOut_each (R := fun u (z : V × PyData) => RelV z.1 u) (fun z : V × PyData => z.2) ko ez
      have rv2 : Vals (((xs.zip ks).mergeSort keyLe).map (·.1)) out := each_vals eo
      have Ip : Inv X pins σ H' s' := I'.pins_of fun p hp => I'.pin p (List.mem_append_right _ (List.mem_cons_of_mem _ (List.mem_cons_of_mem _ (List.mem_cons_of_mem _ hp))))
      have nA : ∀ b u, H' b = some u → b ≠ h1.objs.size := fun b u q z => by rw [z, pA.2.1] at q; cases q
      have nK : ∀ b u, H' b = some u → b ≠ kS := fun b u q z => by rw [z, pK.2.1] at q; cases q
      have hle : (((xs.zip ks).mergeSort keyLe).map (·.1)).length ≤ sizeLine := by
        rw [List.length_map, List.length_mergeSort, List.length_zip]
        omega
      refine ⟨.ref h1.objs.size, upd H' h1.objs.size (.lst (((xs.zip ks).mergeSort keyLe).map (·.1))), ?_, rfl, fin _ pA.2.1⟩
      refine Ip.step (g' := s'.gens) (d' := s'.drawn) (t' := tk) (ch := [kS, h1.objs.size]) (fun b hb => ?_) (fun b o _ _ hc q _ => kp b o (fun z => hc (by simp [z])) (fun z => hc (by simp [z])) q) (fun b o _ _ hc q _ => ⟨o.slots, kp b o (fun z => hc (by simp [z])) (fun z => hc (by simp [z])) q⟩)
        (fun b o hc _ n => by rw [upd_ne (fun z => hc (by simp [z]))]; exact n) (fun b o hc q => ⟨o, kp b o (fun z => hc (by simp [z])) (fun z => hc (by simp [z])) q⟩)
        (fun b xs q => by rw [upd_ne (nA b _ q)]; exact q) (fun b o u q => by rw [upd_ne (nA b _ q)]; exact q) (fun b ps q => ⟨#[], by rw [upd_ne (nA b _ q), q]; simp⟩) (fun m hm => ?_) (fun b u q => ?_) Ip.bare
      · rcases List.mem_cons.mp hb with rfl | hb
        · exact ⟨fpK.2.2.2.1, pK.2.2.1, fpK.2.2.2.2.1, fpK.2.2.2.2.2⟩
        · rw [List.mem_singleton.mp hb]
          exact ⟨fpA.2.2.2.1, pA.2.2.1, fpA.2.2.2.2.1, fpA.2.2.2.2.2⟩
      · obtain ⟨ob, es, ep, hob, r⟩ := hm
        exact ⟨ob, es, ep, kp _ ob (Ne.symm pA.2.2.1) (Ne.symm pK.2.2.1) hob, r⟩
      · by_cases hb : b = h1.objs.size
        · rw [hb, upd_same] at q
          cases q
          rw [hb]
          exact ⟨hle, out, c, rv2, hA⟩
        · rw [upd_ne hb] at q
          refine (Ip.hok b u q).stay (fun c v hc' y => kp c v ?_ ?_ y) (fun c y => by rw [upd_ne (nA c _ y)]; exact y) fun c xs y => by rw [upd_ne (nA c _ y)]; exact y
          · rcases hc' with y | y
            · rw [y]; exact hb
            · exact nA c _ y
          · rcases hc' with y | y
            · rw [y]; exact nK b u q
            · exact nK c _ y
end
end Den
/-! DenY: sorted(xs, key=lambda x: ..) by data -/
namespace Den
open PySem PySem.Spec PyProof.Rows L2 LamX
def keyLeD : D × D → D × D → Bool := PySem.W.dataLe false (·.2)
def sortBy (es ks : List D) : List D := ((es.zip ks).mergeSort keyLeD).map (·.1)
def isTupNE : D → Bool
  | .tuple (_ :: _) => true
  | _ => false
def notNT : D → Bool
  | .none => false
  | .tuple _ => false
  | _ => true
def sortOk (ks : List D) : Bool := (ks.all fun d => d.canLay0 && decide (d.depth ≤ 64)) && (ks.all fun a => ks.all fun b => PySem.W.alike a b) && (ks.all isTupNE || ks.all notNT)
def keysLoop (ix : Nat) (fk : M R) : List D → List D → M (List D)
  | [], acc => pure acc
  | d :: r, acc => do
    wipeM [ix]
    putRaw ix (.dat d)
    let y ← fk
    let k ← frz y
    keysLoop ix fk r (acc ++ [k])
def sortKD (ix : Nat) (fe fk : M R) : M R := do
  let r ← fe
  let d ← dat r
  match seqOf d with
  | some es => do
    let ks ← within [ix] (keysLoop ix fk es [])
    need (sortOk ks)
    newL (sortBy es ks)
  | none => fail
section
variable {G : Gh} {Hd : Hp} {ds : DS} {ts : List (R × V)} {σ : L2.St} {H H2 : Hp} {P : Addr} {q : Str}
theorem Rel0.grown (h : Rel0 G Hd ds ts σ H) (hP : (P, some q) ∈ G.T) (hU : ∀ Q ∈ G.T, Q.1 = P → Q = (P, some q)) (t : Grown P q H H2) : Rel0 G Hd ds ts σ H2 := by
  obtain ⟨⟨ps, w1, w2⟩, w3, w4⟩ := h.tab (P, some q) hP
  have w3 : Hd P = none := w3
  have w4 : G.F P = none := w4
  have ne : ∀ {p o}, H p = some o → (∀ ps, o ≠ .tbl ps) → p ≠ P := fun e n z => by rw [z, w1] at e; cases e; exact n ps rfl
  refine h.move (ok := fun q => q ≠ P) (fun q hq n ⟨o, e⟩ => ⟨(t.2 q o hq e).trans e.symm, n⟩) (Same.refl _) (fun b u e => ?_) (fun a u e => ?_) (fun Q hQ => ?_) (fun i q w z => ?_) fun q hq z => ?_
  · exact t.2 b u (fun z => by rw [z, w3] at e; cases e) (h.sub b u e)
  · exact ⟨t.2 a u (fun z => by rw [z, w4] at e; cases e) (h.fr a u e).1, (h.fr a u e).2⟩
  · obtain ⟨x1, x2, _⟩ := h.tab Q hQ
    by_cases e : Q.1 = P
    · have e2 : Q = (P, some q) := hU Q hQ e
      subst e2; exact ⟨t.1, w3⟩
    · obtain ⟨ps', ep⟩ := x1.tbl
      exact ⟨x1.keep ((t.2 Q.1 _ e ep).trans ep.symm) (fun c φ e => t.2 c _ (fun z => by rw [z, w1] at e; cases e) e), x2⟩
  · obtain ⟨_, _, _, y⟩ := h.ownsAt w
    obtain ⟨u, e, n⟩ := y.1.some
    exact ne e n z
  · obtain ⟨d', hd'⟩ := of_ownT hq
    obtain ⟨q', e, y⟩ := h.tmp _ hd'
    cases e
    obtain ⟨u, e, n⟩ := y.1.some
    exact ne e n z
end
theorem zip_tmp {G : Gh} {Hd : Hp} {ds : DS} {ts : List (R × V)} {σ : L2.St} {H : Hp} (h : Rel0 G Hd ds ts σ H) : ∀ {es : List D} {xs : List V}, xs.length = es.length → (∀ p ∈ (es.map R.dat).zip xs, p ∈ ts) → RepAll G.K Hd xs es
  | [], [], _, _ => .nil
  | d :: es, x :: xs, e, hp => .cons (h.tmp (.dat d, x) (hp _ List.mem_cons_self)) (zip_tmp h (by simpa using e) fun p hq => hp p (List.mem_cons_of_mem _ hq))
  | [], _ :: _, e, _ => by simp at e
  | _ :: _, [], e, _ => by simp at e
theorem dats_zip (es : List D) (xs : List V) : Dats ((es.map R.dat).zip xs) := fun p hp => by
  obtain ⟨d, _, e⟩ := List.mem_map.mp (List.of_mem_zip hp).1
  exact ⟨d, e.symm⟩
theorem sorted_rep {K : PySem.W.Frag} {Hd : Hp} {xs : List V} {es ks : List D} (r : RepAll K Hd xs es) (hl : es.length = ks.length) : RepAll K Hd (((xs.zip ks).mergeSort keyLe).map (·.1)) (sortBy es ks) := by
  have h1 := r.length
  have a1 : ((xs.zip es).zip ks).map (fun z => (z.1.1, z.2)) = xs.zip ks := by
    apply List.ext_getElem?
    intro i
    simp only [List.getElem?_map, List.getElem?_zip_eq_some]
    by_cases hi : i < xs.length
    · have e1 : ((xs.zip es).zip ks)[i]? = some ((xs[i], es[i]'(by omega)), ks[i]'(by omega)) := by
        rw [List.getElem?_zip_eq_some, List.getElem?_zip_eq_some]
        exact ⟨⟨List.getElem?_eq_getElem hi, List.getElem?_eq_getElem (by omega)⟩, List.getElem?_eq_getElem (by omega)⟩
      have e2 : (xs.zip ks)[i]? = some (xs[i], ks[i]'(by omega)) := by
        rw [List.getElem?_zip_eq_some]
        exact ⟨List.getElem?_eq_getElem hi, List.getElem?_eq_getElem (by omega)⟩
      rw [e1, e2]; rfl
    · rw [List.getElem?_eq_none (by simp only [List.length_zip]; omega), List.getElem?_eq_none (by rw [List.length_zip]; omega)]; rfl
  have a2 : ((xs.zip es).zip ks).map (fun z => (z.1.2, z.2)) = es.zip ks := by
    apply List.ext_getElem?
    intro i
    simp only [List.getElem?_map, List.getElem?_zip_eq_some]
    by_cases hi : i < xs.length
    · have e1 : ((xs.zip es).zip ks)[i]? = some ((xs[i], es[i]'(by omega)), ks[i]'(by omega)) := by
        rw [List.getElem?_zip_eq_some, List.getElem?_zip_eq_some]
        exact ⟨⟨List.getElem?_eq_getElem hi, List.getElem?_eq_getElem (by omega)⟩, List.getElem?_eq_getElem (by omega)⟩
      have e2 : (es.zip ks)[i]? = some (es[i]'(by omega), ks[i]'(by omega)) := by
        rw [List.getElem?_zip_eq_some]
        exact ⟨List.getElem?_eq_getElem (by omega), List.getElem?_eq_getElem (by omega)⟩
      rw [e1, e2]; rfl
    · rw [List.getElem?_eq_none (by simp only [List.length_zip]; omega), List.getElem?_eq_none (by rw [List.length_zip]; omega)]; rfl
  have b1 : (((xs.zip es).zip ks).mergeSort (fun z w => PySem.W.dataLe false id z.2 w.2)).map (fun z => (z.1.1, z.2)) = (xs.zip ks).mergeSort keyLe := by
    rw [← a1]
    exact List.map_mergeSort (fun a _ b _ => rfl)
  have b2 : (((xs.zip es).zip ks).mergeSort (fun z w => PySem.W.dataLe false id z.2 w.2)).map (fun z => (z.1.2, z.2)) = (es.zip ks).mergeSort keyLeD := by
    rw [← a2]
    exact List.map_mergeSort (fun a _ b _ => rfl)
  unfold sortBy
  rw [← b1, ← b2, List.map_map, List.map_map]
  have mem : ∀ z ∈ ((xs.zip es).zip ks).mergeSort (fun z w => PySem.W.dataLe false id z.2 w.2), Rep K Hd z.1.1 z.1.2 := fun z hz => by
    have hz := (List.mergeSort_perm _ _).mem_iff.mp hz
    have hz := (List.of_mem_zip hz).1
    obtain ⟨i, hi⟩ := List.getElem?_of_mem hz
    rw [List.getElem?_zip_eq_some] at hi
    obtain ⟨u, hu, ru⟩ := r.get hi.2
    rw [hi.1] at hu; cases hu
    exact ru
  generalize ((xs.zip es).zip ks).mergeSort (fun z w => PySem.W.dataLe false id z.2 w.2) = zs at mem
  induction zs with
  | nil => exact .nil
  | cons z zs ih => exact .cons (mem z List.mem_cons_self) (ih fun y hy => mem y (List.mem_cons_of_mem _ hy))
theorem wipe_wipe1 (σ : L2.St) (ix : Nat) (x : Option V) : wipe ((wipe σ [ix]).set ix x) [ix] = wipe σ [ix] := by
  rw [wipe_set List.mem_cons_self]
  apply List.ext_getElem?
  intro j
  simp only [wipe_get, wipe_length]
  by_cases hj : j ∈ [ix] ∧ j < σ.length
  · rw [if_pos hj, if_pos hj]
  · rw [if_neg hj]
section
variable {X : Cx} {G : Gh} {W : L2.WX} {e body : Expr} {params : Arguments} {scope : Scope} {x : Str} {ix k : Nat} {cc P : Addr} {fe fk : M R} {p pos lpos kpos : Pos} {q : Str}
theorem sortK_read (te : TE) (hte : te = tD G W fe) (hP : (P, some q) ∈ G.T) (hU : ∀ Q ∈ G.T, Q.1 = P → Q = (P, some q)) {σ : L2.St} {H : Hp} {Q : VK} (z : tD G W (sortKD ix fe fk) σ H Q) : tSortK G.K P q ix te (tD G W0 fk) σ H Q := by
  subst hte
  obtain ⟨ds, ts, h, p⟩ := z
  refine tD.go (k := fun x => pure x) h (Post.bind.mp p) fun r ds1 v H1 p1 h1 => ?_
  obtain ⟨d, hd, p1⟩ := Post.dat (r := r) p1
  cases hs : seqOf d with
  | none => simp only [hs] at p1; exact p1.elim
  | some es =>
    simp only [hs] at p1
    obtain ⟨Hd1, h1⟩ := h1
    obtain ⟨a, xs, e1, e2, e3⟩ := h1.seq h1.top hd hs
    have e1 : v = .ref a := e1
    refine ⟨a, xs, e1, e2, (h1.tab (P, some q) hP).1, fun H2 hG => ?_⟩
    have h2 := h1.pop.grown hP hU hG
    have p2 := Post.bind.mp p1
    unfold within at p2
    split at p2
    · rename_i ok
      cases hm : keysLoop ix fk es [] ds1 with
      | none => simp only [hm] at p2; exact p2.elim
      | some res =>
        cases res with
        | err c s => simp only [hm] at p2; exact p2.elim
        | ok ks dsE =>
          simp only [hm] at p2
          split at p2
          · rename_i sh
            obtain ⟨so, p3⟩ := Post.need (b := sortOk ks) p2
            have fin : ∀ v H', Rel G (restoreD ds1 dsE [ix]) ((.new (.list (sortBy es ks)), v) :: ts) σ H' → Q v H' := p3
            obtain ⟨sv, sD, s1, s2⟩ := h2.save (vs := [ix])
            have nb := h2.noB ok
            have nb1 : G.B ix = none := nb ix List.mem_cons_self
            have hsub : (sv ++ ts.filter keepT).Sublist (sv ++ ts) := List.Sublist.append (List.Sublist.refl _) List.filter_sublist
            have na0 : NoAt (sv ++ ts.filter keepT) := dats_noAt sD (noAt_keep _)
            have naT : NoAt ((es.map R.dat).zip xs ++ (sv ++ ts.filter keepT)) := noAt_dats es xs na0
            have naK : ∀ (kd : List D) (kv : List V), NoAt ((kd.map R.dat).zip kv ++ ((es.map R.dat).zip xs ++ (sv ++ ts.filter keepT))) := fun kd kv => noAt_dats kd kv naT
            have b1 : Rel0 G Hd1 (wipeD ds1 [ix]) ((es.map R.dat).zip xs ++ (sv ++ ts.filter keepT)) (wipe σ [ix]) H2 := (zip_reps e3 (s1.sub' hsub)).wipe naT nb
            have hlx := e3.length
            refine ⟨fun i kvs H' => ∃ dsi ksi, kvs.length = i ∧ ksi.length = i ∧ Rel G (wipeD dsi [ix]) ((ksi.map R.dat).zip kvs ++ ((es.map R.dat).zip xs ++ (sv ++ ts.filter keepT))) (wipe σ [ix]) H' ∧ keysLoop ix fk (es.drop i) ksi dsi = some (.ok ks dsE),
              ⟨ds1, [], rfl, rfl, ⟨Hd1, b1⟩, by rw [List.drop_zero]; exact hm⟩, fun i kvs H' ⟨_, _, _, _, ⟨Hd', r'⟩, _⟩ => (r'.tab (P, some q) hP).1, ?_, ?_⟩
            · rintro i x kvs H' hx ⟨dsi, ksi, l1, l2, ⟨Hd3, h3⟩, hm3⟩
              have hi : i < es.length := by rw [← hlx]; exact (List.getElem?_eq_some_iff.mp hx).1
              have hdr : es.drop i = es[i] :: es.drop (i + 1) := List.drop_eq_getElem_cons hi
              rw [hdr] at hm3
              have rx : Rep G.K Hd3 x es[i] := by
                have := zip_tmp h3 (es := es) (xs := xs) hlx fun p hp => List.mem_append_right _ (List.mem_append_left _ hp)
                obtain ⟨u, hu, ru⟩ := this.get (List.getElem?_eq_getElem hi)
                rw [hx] at hu; cases hu
                exact ru
              have st := (h3.pushD rx).store (i := ix) (r := .dat es[i]) trivial (naK ksi kvs) nb1
              have p4 : Post ((do
                  let y ← fk
                  let k ← frz y
                  keysLoop ix fk (es.drop (i + 1)) (ksi ++ [k]) : M (List D)) ((wipeD dsi [ix]).set ix (some (.dat es[i])))) (fun a s => a = ks ∧ s = dsE) (fun _ _ => False) := by
                have e0 : (keysLoop ix fk (es[i] :: es.drop (i + 1)) ksi dsi) = (do
                  putRaw ix (.dat es[i])
                  let y ← fk
                  let k ← frz y
                  keysLoop ix fk (es.drop (i + 1)) (ksi ++ [k]) : M (List D)) (wipeD dsi [ix]) := rfl
                have p5 : Post ((do
                  putRaw ix (.dat es[i])
                  let y ← fk
                  let k ← frz y
                  keysLoop ix fk (es.drop (i + 1)) (ksi ++ [k]) : M (List D)) (wipeD dsi [ix])) (fun a s => a = ks ∧ s = dsE) (fun _ _ => False) := by
                  rw [← e0, hm3]; exact ⟨rfl, rfl⟩
                have p6 := Post.bind.mp p5
                unfold putRaw at p6
                split at p6
                · exact p6.elim
                · exact p6
              have ext : ∀ {l a' : List D} {s : DS}, Post (keysLoop ix fk l a' s) (fun a s => a = ks ∧ s = dsE) (fun _ _ => False) → keysLoop ix fk l a' s = some (.ok ks dsE) := fun {l a' s} z => by
                cases hq : keysLoop ix fk l a' s with
                | none => rw [hq] at z; exact z.elim
                | some o => cases o with
                  | ok a b => rw [hq] at z; obtain ⟨rfl, rfl⟩ := z; rfl
                  | err c b => rw [hq] at z; exact z.elim
              refine ⟨_, _, ⟨Hd3, st⟩, lc_post (E' := PErr G W0 _ _) p4 (fun _ _ z => z) |>.mono (fun y ds5 p5 v5 H5 h5 => ?_) fun _ _ z => z⟩
              obtain ⟨kd, ds6, ⟨Hd6, h6⟩, p6⟩ := Rel.frz1 h5 p5
              have w6 := h6.wipe (vs := [ix]) (fun p hp => by
                rcases List.mem_cons.mp hp with rfl | hp
                · exact trivial
                · exact naK ksi kvs p hp) nb
              rw [wipe_wipe1] at w6
              refine ⟨ds6, ksi ++ [kd], by rw [List.length_append, l1]; rfl, by rw [List.length_append, l2]; rfl, ⟨Hd6, w6.perm ?_⟩, ext p6⟩
              have ez : ((ksi ++ [kd]).map R.dat).zip (kvs ++ [v5]) = (ksi.map R.dat).zip kvs ++ [(R.dat kd, v5)] := by
                rw [List.map_append, List.zip_append (by rw [List.length_map, l1, l2])]; rfl
              rw [ez, List.append_assoc]
              exact List.perm_middle
            · rintro kvs H' ⟨dsi, ksi, l1, l2, ⟨Hd3, h3⟩, hm3⟩
              have ed : es.drop xs.length = [] := List.drop_of_length_le (by omega)
              rw [ed] at hm3
              have hm3 : some (Res.ok ksi dsi) = some (Res.ok ks dsE) := hm3
              cases hm3
              unfold sortOk at so
              rw [Bool.and_eq_true, Bool.and_eq_true] at so
              obtain ⟨⟨so1, so2⟩, so3⟩ := so
              have c1 : ∀ d ∈ ks, d.canLay0 = true ∧ d.depth ≤ 64 := fun d hd => by
                have := List.all_eq_true.mp so1 d hd
                rw [Bool.and_eq_true] at this
                exact ⟨this.1, of_decide_eq_true this.2⟩
              have rk : RepAll G.K Hd3 kvs ks := zip_tmp h3 (by omega) fun p hp => List.mem_append_left _ hp
              have rx : RepAll G.K Hd3 xs es := zip_tmp h3 hlx fun p hp => List.mem_append_right _ (List.mem_append_left _ hp)
              refine ⟨ks, by omega, fun z hz => ?_, fun d hd d' hd' => List.all_eq_true.mp (List.all_eq_true.mp so2 d hd) d' hd', ?_, fun d hd => (c1 d hd).2, fun pp np => fin _ _ ?_⟩
              · obtain ⟨i, hi⟩ := List.getElem?_of_mem hz
                rw [List.getElem?_zip_eq_some] at hi
                obtain ⟨u, hu, ru⟩ := rk.get hi.2
                rw [hi.1] at hu; cases hu
                exact (ru.mono h3.sub).dp (c1 _ (List.mem_of_getElem? hi.2)).1
              · rw [Bool.or_eq_true] at so3
                rcases so3 with so3 | so3
                · refine .inl fun d hd => ?_
                  have := List.all_eq_true.mp so3 d hd
                  unfold isTupNE at this
                  split at this
                  · exact ⟨_, _, rfl⟩
                  · cases this
                · refine .inr fun d hd => ?_
                  have := List.all_eq_true.mp so3 d hd
                  unfold notNT at this
                  split at this
                  · cases this
                  · cases this
                  · rename_i n1 n2
                    exact ⟨fun z => n1 z, fun xs z => n2 xs z⟩
              · have h4 : Rel0 G Hd3 (wipeD dsE [ix]) (sv ++ ts.filter keepT) (wipe σ [ix]) H' := h3.sub' ((List.sublist_append_right _ _).trans (List.sublist_append_right _ _))
                have r5 := h2.restore ok sD s2 h4 sh
                exact Rel.newL ⟨Hd3, r5, sorted_rep rx (by omega)⟩ np
          · exact p2.elim
    · exact p2.elim
theorem de_sortKey (hK : X.K = G.K) (hr : Room (k + 2) X.A) (hN : X.N.Nodup) (hg : Gl X "sorted") (hm : X.mg "sorted" = none) (hv : bootBuiltins "sorted" = some (.builtin "sorted")) (TB : LamX.TabB X.base X.mg cc P) (hcode : X.env.code = .ref cc) (hP : (P, some (X.env.qual ++ "<lambda>")) ∈ G.T) (hU : ∀ Q ∈ G.T, Q.1 = P → Q = (P, some (X.env.qual ++ "<lambda>")))
    (L : LamP X.N X.env.scope scope x ix)
    (hdef : defaultsOf params X.env = ([], [])) (hbind : ∀ (cl : List (Str × Addr)) (pm ctv : Value) (c' : Addr) (u : Value), bindArgs (PySem.W.kla_fn "<lambda>" (X.env.qual ++ "<lambda>") params body scope cl pm (.ref c') ctv) ⟨[u], []⟩ = pure [(x, u)]) (he : PE X e (tD G W fe))
    (hbody : ∀ (s : Shared) (H : Hp) (f c' : Addr), PE (lamX X s H scope f c') body (tD G W0 fk))
    (hs : starEach [e] X.env = (false, eval e X.env) :: starEach [] X.env := by rfl)
    (hs2 : backTo pos (starEach [e] X.env) = (false, eval e X.env) :: backTo pos (starEach [] X.env) := by rfl) (hpl : (backTo pos (starEach [e] X.env)).any (·.1) = false := by rfl)
    (hall : (backToKw pos (keywordEach [⟨some "key", .Lambda params body scope lpos, kpos⟩] X.env)).all (·.1.isSome) = true := by rfl) (hnone : (backToKw pos (keywordEach [⟨some "key", .Lambda params body scope lpos, kpos⟩] X.env)).any (·.1.isNone) = false := by rfl)
    (hks : (backToKw pos (keywordEach [⟨some "key", .Lambda params body scope lpos, kpos⟩] X.env)).filterMap (·.1) = [Str.ofString "key"] := by rfl) :
    PE X (.Call (.Name "sorted" p) [e] [⟨some "key", .Lambda params body scope lpos, kpos⟩] pos) (tD G W (sortKD ix fe fk)) :=
  pe_imp (pe_sortKey hr hN hg hm hv TB hcode L hdef hbind he hbody hs hs2 hpl hall hnone hks) fun _ _ _ q => hK ▸ sortK_read _ rfl hP hU q
end
end Den
/-! DenZ: a, b, c = x, y, z; odds and ends -/
namespace Den
open PySem PySem.Spec PyProof.Rows L2
section
variable {X : Cx}
def tPar3 (i j l : Nat) (ta : TA) : TS := fun D σ H => ta σ H fun vs H1 => ∃ v w u, vs = [v, w, u] ∧ D.nx (((σ.set i (some v)).set j (some w)).set l (some u)) H1
theorem ps_par3 {i j l : Nat} {x y z : Str} {a b c : Expr} {ta : TA} {px py pz pt pos : Pos} {kt k2 pt2} (hc : X.calm = true) (hN : X.N.Nodup) (hi : X.N[i]? = some x) (hj : X.N[j]? = some y) (hl : X.N[l]? = some z) (hij : i ≠ j) (hil : i ≠ l) (hjl : j ≠ l)
    (hx : X.env.scope.names.lookup x = some .local) (hy : X.env.scope.names.lookup y = some .local) (hz : X.env.scope.names.lookup z = some .local) (ha : PA X [a, b, c] ta)
    (hw : swappedStores [.Tuple [.Name x px, .Name y py, .Name z pz] kt pt] (.Tuple [a, b, c] k2 pt2) X.env = pure (some [x, y, z]))
    (hs : swapsWithSole [.Tuple [.Name x px, .Name y py, .Name z pz] kt pt] (.Tuple [a, b, c] k2 pt2) pos.line X.env = pure false := by rfl) :
    PS X (.Assign [.Tuple [.Name x px, .Name y py, .Name z pz] kt pt] (.Tuple [a, b, c] k2 pt2) pos) (tPar3 i j l ta) := by
  refine ⟨fun pins s σ H D I h => ?_⟩
  rw [exec_Assign_arm]
  refine wpAny_bind (wpAny_standAt ?_)
  rw [hs]
  refine wpAny_bind (wpAny_pure ?_)
  rw [if_neg (by decide)]
  refine wpAny_bind (Tuple_ (thn (ha.run _ pins s σ H _ I h) fun us s1 ⟨vs, H1, I1, r1, q1⟩ => ?_))
  obtain ⟨v, w, u, e1, q1⟩ := q1
  subst e1
  obtain ⟨u1, u2, u3, rfl, rv, rw', ru⟩ : ∃ u1 u2 u3, us = [u1, u2, u3] ∧ RelV v u1 ∧ RelV w u2 ∧ RelV u u3 := by
    cases r1 with
    | cons p q =>
      cases q with
      | cons p' q' =>
        cases q' with
        | cons p'' q'' =>
          cases q''
          exact ⟨_, _, _, rfl, p, p', p''⟩
  refine wpAny_newObj_type ?_ (by show 3 ≤ sizeLine; decide)
  have I2 : Inv X pins σ H1 { s1 with heap := s1.heap.push { cls := .type "tuple", data := .seq [u1, u2, u3].toArray } } := I1.kept (t' := s1.toks) fun b o e => Heap.get?_push_of_some _ e
  rw [hw]
  refine wpAny_bind (wpAny_pure ?_)
  show wpAny (model X.prog X.w) X.A (do rule "assign.swapped-stores"; let items ← unpackItems (.ref s1.heap.objs.size) 3 none; assignInOrder [fun v => bindName X.env z v, fun v => bindName X.env y v, fun v => bindName X.env x v] items.reverse; pure Flow.next) _ _ _
  refine wpAny_bind (wpAny_rule (wpAny_bind (unpackItems_tuple (items := #[u1, u2, u3]) (I.ok.hd hc) (IsTup.new s1.heap _) fun h' hx' => ?_)))
  have I3 := I2.kept (h' := h') (t' := s1.toks) fun b o e => hx' b o (Nat.ne_of_lt (Heap.lt_size e)) e
  show wpAny _ _ (assignInOrder [fun v => bindName X.env z v, fun v => bindName X.env y v, fun v => bindName X.env x v] [u3, u2, u1] >>= fun _ => pure Flow.next) _ _ _
  refine wpAny_bind (assignInOrder_cons (wpAny_bindName (store_ok I3 hN hl (.inl hz) ru (fun s2 I4 => ?_) (.inr hz))))
  refine assignInOrder_cons (wpAny_bindName (store_ok I4 hN hj (.inl hy) rw' (fun s3 I5 => ?_) (.inr hy)))
  refine assignInOrder_cons (wpAny_bindName (store_ok I5 hN hi (.inl hx) rv (fun s4 I6 => assignInOrder_nil (wpAny_pure ?_)) (.inr hx)))
  have e : ((σ.set l (some u)).set j (some w)).set i (some v) = ((σ.set i (some v)).set j (some w)).set l (some u) := by
    rw [List.set_comm _ _ (Ne.symm hjl), List.set_comm _ _ (Ne.symm hil), List.set_comm _ _ (Ne.symm hij)]
  rw [e] at I6
  exact ⟨_, H1, I6, q1⟩
variable {G : Gh} {W : L2.WX} {st : Stmt} {fr : M (List R)}
def par3D (i j l : Nat) (fr : M (List R)) : M Fl := do
  let rs ← fr
  match rs with
  | [a, b, c] => do
    let a ← unAt a
    let b ← unAt b
    let c ← unAt c
    putRaw i a
    putRaw j b
    putRaw l c
    pure .nx
  | _ => fail
theorem ds_par3 {i j l : Nat} (h : PS X st (tPar3 i j l (tA G W fr))) : PS X st (tS G W (par3D i j l fr)) := ps_imp h fun D σ H q => by
  obtain ⟨ds, ts, hn, h, p⟩ := q
  unfold par3D at p
  refine tA.go h ((Post.bind.mp p).mono (fun _ _ z => z) fun _ _ z => z.at) fun rs ds1 vs H1 p1 hl h1 => ?_
  split at p1
  · match vs, hl with
    | [v, w, u], _ =>
      refine ⟨v, w, u, rfl, ?_⟩
      obtain ⟨a', ds2, n1, h2, p2⟩ := Rel.unAt h1 p1
      rename_i ra rb rc hlen
      have h2 : Rel G ds2 ((a', v) :: (rb, w) :: (rc, u) :: ts) σ H1 := h2
      obtain ⟨b', ds3, n2, h3, p3⟩ := Rel.unAt (h2.perm (List.Perm.swap _ _ _)) p2
      obtain ⟨c', ds4, n3, h4, p4⟩ := Rel.unAt (h3.perm ((List.Perm.swap (a', v) (rc, u) _).trans (((List.Perm.swap (b', w) (rc, u) _).cons _).trans (List.Perm.swap _ _ _)))) p3
      have na1 : NoAt ((c', u) :: (b', w) :: ts) := fun z hz => by
        rcases List.mem_cons.mp hz with rfl | hz
        · exact n3
        · rcases List.mem_cons.mp hz with rfl | hz
          · exact n2
          · exact hn z hz
      have na2 : NoAt ((c', u) :: ts) := fun z hz => by
        rcases List.mem_cons.mp hz with rfl | hz
        · exact n3
        · exact hn z hz
      obtain ⟨ds5, h5, p5⟩ := Rel.putRaw n1 na1 (h4.perm (List.Perm.swap _ _ _)) p4
      obtain ⟨ds6, h6, p6⟩ := Rel.putRaw n2 na2 (h5.perm (List.Perm.swap _ _ _)) p5
      obtain ⟨ds7, h7, p7⟩ := Rel.putRaw n3 hn h6 p6
      exact p7 _ H1 h7
  · exact p1.elim
end
end Den
/-! DenZA: a tuple's display stored in a tuple of targets; short names of readings; a def as it stands behind the top -/
namespace Den
open PySem PySem.Spec PyProof.Rows L2
def unAts : List R → M (List R)
  | [] => pure []
  | r :: rs => do
    let q ← unAt r
    let qs ← unAts rs
    pure (q :: qs)
section
variable {X : Cx} {G : Gh} {W : L2.WX}
theorem Rel.unAts : ∀ {rs : List R} {vs : List V} {α : Type} {k : List R → M α} {ds : DS} {ts : List (R × V)} {σ : L2.St} {H : Hp} {P : α → DS → Prop} {E : String → DS → Prop}, vs.length = rs.length → Rel G ds (rs.zip vs ++ ts) σ H → Post ((do let d ← Den.unAts rs; k d) ds) P E →
    ∃ qs ds', Rel G ds' (qs.zip vs ++ ts) σ H ∧ (∀ q ∈ qs.zip vs, notAt q.1) ∧ qs.length = rs.length ∧ Post (k qs ds') P E
  | [], [], _, k, ds, ts, σ, H, P, E, _, h, p => ⟨[], ds, h, (fun _ z => by cases z), rfl, p⟩
  | r :: rs, v :: vs, _, k, ds, ts, σ, H, P, E, hl, h, p => by
    have p : Post ((do let d ← Den.unAt r; (do let es ← Den.unAts rs; k (d :: es))) ds) P E := by
      have p1 := Post.bind.mp p
      unfold Den.unAts at p1
      have p2 := Post.bind.mp p1
      refine Post.bind.mpr (p2.mono (fun d s q => ?_) fun _ _ z => z)
      exact Post.bind.mpr ((Post.bind.mp q).mono (fun _ _ z => z) fun _ _ z => z)
    obtain ⟨q, ds1, nn, h1, p1⟩ := Rel.unAt (ts := rs.zip vs ++ ts) h p
    have h1' : Rel G ds1 (rs.zip vs ++ ((q, v) :: ts)) σ H := h1.perm List.perm_middle
    obtain ⟨qs, ds2, h2, n2, hl2, p2⟩ := Rel.unAts (by simpa using hl) h1' p1
    refine ⟨q :: qs, ds2, h2.perm List.perm_middle.symm, fun z hz => ?_, by simp [hl2], p2⟩
    rcases List.mem_cons.mp hz with rfl | hz
    · exact nn
    · exact n2 z hz
  | [], _ :: _, _, _, _, _, _, _, _, _, hl, _, _ => by simp at hl
  | _ :: _, [], _, _, _, _, _, _, _, _, hl, _, _ => by simp at hl
def tupN (n : Nat) (fr : M (List R)) (gs : List R → M Unit) : M Fl := do
  let rs ← fr
  lenOk rs.length
  need (decide (rs.length = n))
  let rs ← unAts rs
  gs rs
  pure .nx
theorem ds_tupN {es tgs : List Expr} {fr : M (List R)} {gs : List R → M Unit} {n k k2 : Nat} {p1 p2 pos : Pos} (hK : X.K = G.K) (hc : X.calm = true) (ha : PA X es (tA G W fr)) (hg : PGs X tgs (tGs G W none gs))
    (hn : (assignEach tgs X.env).length = n := by rfl) (hst : (assignEach tgs X.env).findIdx? (·.1) = none := by rfl)
    (hs : swapsWithSole [.Tuple tgs k p1] (.Tuple es k2 p2) pos.line X.env = pure false := by rfl) (hw : swappedStores [.Tuple tgs k p1] (.Tuple es k2 p2) X.env = pure none := by rfl)
    (h1 : (assignEach [.Tuple tgs k p1] X.env).map (·.2) = [assign (.Tuple tgs k p1) X.env] := by rfl) : PS X (.Assign [.Tuple tgs k p1] (.Tuple es k2 p2) pos) (tS G W (tupN n fr gs)) :=
  ps_imp (ps_asg (pe_tup ha) (pg_tup hc hg hn hst) hs hw h1) fun D σ H q => by
    obtain ⟨ds, ts, hn, h, p⟩ := q
    unfold tupN at p
    refine tA.go h ((Post.bind.mp p).mono (fun _ _ z => z) fun _ _ z => z.at) fun rs ds1 vs H1 p1 hl h1 => ?_
    obtain ⟨c, p1⟩ := Post.need (b := decide _) p1
    obtain ⟨c2, p1⟩ := Post.need (b := decide _) p1
    obtain ⟨qs, ds2, h2, n2, hl2, p2⟩ := Rel.unAts hl h1 p1
    refine ⟨sizeLine16 (by rw [hl]; exact c), fun p' np => ?_⟩
    obtain ⟨Hd, h2⟩ := h2
    refine ⟨p', vs, rfl, .inl (.inl upd_same), by rw [hl]; exact of_decide_eq_true c2, ds2, ts, qs, by rw [hl2, hl], fun z hz => ?_, ⟨Hd, h2.fresh np⟩, (Post.bind.mp p2).mono (fun _ ds3 q σ' H' _ h' => q σ' H' h') fun _ _ z => z⟩
    rcases List.mem_append.mp hz with hz | hz
    · exact n2 z hz
    · exact hn z hz
end
def setF (i : Nat) (f : M R) : M Fl := do
  let r ← f
  let d ← frz r
  putSl i (.dat d)
  pure .nx
/-- a name that is never changed in place: its object is plain data from the start -/
theorem ds_setF {X : Cx} {G : Gh} {W : L2.WX} {e : Expr} {pos : Pos} {f : M R} {i : Nat} {x : Str} {pos' : Pos} (h : PS X (.Assign [.Name x pos'] e pos) (tAsg (tD G W f) (gName i))) : PS X (.Assign [.Name x pos'] e pos) (tS G W (setF i f)) := ps_imp h fun D σ H q => by
  obtain ⟨ds, ts, hn, h, p⟩ := q
  unfold setF at p
  refine tD.go (k := fun x => pure x) h p.ofS fun r ds1 v H1 p1 h1 => ?_
  obtain ⟨d, ds2, h2, p2⟩ := Rel.frz1 h1 p1
  obtain ⟨ds', h', p'⟩ := Rel.put hn h2 p2
  exact p' _ H1 h'
/-- behind f the object of slot i is plain data -/
def thenFrz (i : Nat) (f : M Fl) : M Fl := do
  match ← f with
  | .nx => do
    let _ ← frz (.at i)
    pure .nx
  | x => pure x
theorem ds_frz {X : Cx} {G : Gh} {W : L2.WX} {st : Stmt} {f : M Fl} {i : Nat} (h : PS X st (tS G W f)) : PS X st (tS G W (thenFrz i f)) := ps_imp h fun D σ H q => by
  obtain ⟨ds, ts, hn, h, p⟩ := q
  unfold thenFrz at p
  refine ⟨ds, ts, hn, h, (Post.bind.mp p).mono (fun fl ds1 q => ?_) fun _ _ z => z⟩
  cases fl with
  | nx =>
    intro σ' H' h1
    have hs : ∃ sv, ds1[i]? = some (some sv) := by
      have q' : Post ((frz (.at i) >>= fun _ => (pure .nx : M Fl)) ds1) (FlP G ts D) (PErrS G W ts) := q
      have q2 := Post.bind.mp q'
      unfold frz at q2
      cases e : ds1[i]? with
      | none => simp only [e] at q2; exact q2.elim
      | some z =>
        cases z with
        | none => simp only [e] at q2; exact q2.elim
        | some sv => exact ⟨sv, rfl⟩
    obtain ⟨sv, es⟩ := hs
    obtain ⟨Hd, h1⟩ := h1
    obtain ⟨v, ev, h2⟩ := h1.slot es
    have q' : Post ((frz (.at i) >>= fun _ => (pure .nx : M Fl)) ds1) (FlP G ts D) (PErrS G W ts) := q
    cases sv with
    | dat d =>
      have q2 := Post.bind.mp q'
      unfold frz at q2
      simp only [es] at q2
      exact q2 σ' H' ⟨Hd, h1⟩
    | own d =>
      obtain ⟨d', ds2, h3, p3⟩ := Rel.frz1 (r := .at i) ⟨Hd, h2⟩ q'
      exact p3 σ' H' h3.pop
    | lent d =>
      have q2 := Post.bind.mp q'
      unfold frz at q2
      simp only [es] at q2
      exact q2.elim
  | rt r => exact q
  | bk => exact q
  | ct => exact q
/-! ### short names -/
abbrev rA0 : M (List R) := pure []
abbrev rAc (fa : M R) (fr : M (List R)) : M (List R) := do let x ← fa; let xs ← fr; pure (x :: xs)
abbrev rO (g : R → R → M R) (fa fb : M R) : M R := do let x ← fa; let y ← fb; g x y
abbrev rC (g : List R → M R) (fr : M (List R)) : M R := do let rs ← fr; g rs
abbrev rI (i : Int) : M R := pure (.dat (.int i))
abbrev rB (i : Bool) : M R := pure (.dat (.bool i))
abbrev rS (i : Str) : M R := pure (.dat (.str i))
abbrev rN : M R := pure (.dat .none)
abbrev rT (fa : M R) : M Bool := do let x ← fa; asBool x
abbrev rNotE (fa : M R) : M R := do let x ← fa; let c ← asBool x; retB (!c)
abbrev rNotT (ca : M Bool) : M Bool := do let c ← ca; pure (!c)
abbrev rIfE (ca : M Bool) (fa fb : M R) : M R := do let k ← ca; if k then fa else fb
abbrev rIf (ca : M Bool) (f1 f2 : M Fl) : M Fl := do let k ← ca; if k then f1 else f2
abbrev rSlice (fa : M R) (fl fu : M (Option Int)) : M R := do let x ← fa; let l ← fl; let u ← fu; gSl x l u
abbrev rOn : M (Option Int) := pure none
abbrev rOs (fa : M R) : M (Option Int) := do let x ← fa; let i ← asInt x; pure (some i)
abbrev rNeg (fa : M R) : M R := do let x ← fa; let i ← asInt x; retI (-i)
abbrev rAppend (fo : M R) (fr : M (List R)) : M R := do let ov ← fo; let d ← dat ov; need (isList d); let rs ← fr; gAppend ov rs
abbrev rPop (fo : M R) : M R := do let ov ← fo; gPop ov
abbrev rAsg (f : M R) (g : R → M Unit) : M Fl := do let r ← f; g r; pure .nx
abbrev rSub (fo fi : M R) : R → M Unit := fun r => do let ov ← fo; let iv ← fi; gSetIx ov iv r
abbrev rPar (i j : Nat) (fr : M (List R)) : M Fl := do let rs ← fr; match rs with | [r, q] => do { let r ← unAt r; let q ← unAt q; putRaw i r; putRaw j q; pure .nx } | _ => fail
abbrev rExpr (f : M R) : M Fl := do let _ ← f; pure .nx
abbrev rRet (f : M R) : M Fl := do let r ← f; pure (.rt r)
abbrev rAug (gI : Int → Int → Int) (i : Nat) (f : M R) : M Fl := do let x ← getSl i; let y ← f; let a ← asInt x; let b ← asInt y; putRaw i (.dat (.int (gI a b))); pure .nx
abbrev rFor (fi : M (List D)) (g : R → M Unit) (fs : M Fl) : M Fl := do let items ← fi; forD g fs items
abbrev rItems (f : M R) : M (List D) := do let r ← f; itemsOf r
abbrev rGo (g : List R → M (List D)) (fr : M (List R)) : M (List D) := do let rs ← fr; g rs
abbrev rIsi (T : String) (fa : M R) : M R := do let r ← fa; gIsi T r
abbrev rMaxD (fr : M (List R)) (fo : M R) : M R := do let rs ← fr; let d ← fo; gMaxDef rs d
abbrev rRev (fe : M R) : M R := do let r ← fe; gRev r
abbrev gsNil : List R → M Unit := fun rs => need rs.isEmpty
theorem lenA_nil {ds : DS} {rs : List R} {s : DS} (h : rA0 ds = some (.ok rs s)) : rs.length = 0 := by
  cases h
  rfl
theorem lenA_cons {n : Nat} {fa : M R} {fr : M (List R)} (k : ∀ {ds : DS} {rs : List R} {s : DS}, fr ds = some (.ok rs s) → rs.length = n) {ds : DS} {rs : List R} {s : DS} (h : rAc fa fr ds = some (.ok rs s)) : rs.length = n + 1 := by
  have p : Post (rAc fa fr ds) (fun r _ => r.length = n + 1) (fun _ _ => True) := by
    have q : Post (rAc fa fr ds) (fun r s' => rAc fa fr ds = some (.ok r s')) (fun _ _ => True) := by
      rw [h]
      exact rfl
    cases h1 : fa ds with
    | none =>
      have : rAc fa fr ds = none := by
        show M.bind fa _ ds = none
        unfold M.bind
        rw [h1]
      rw [this] at h
      cases h
    | some x =>
      cases x with
      | err c s1 =>
        have : rAc fa fr ds = some (.err c s1) := by
          show M.bind fa _ ds = _
          unfold M.bind
          rw [h1]
        rw [this] at h
        cases h
      | ok x s1 =>
        have e1 : rAc fa fr ds = (do let xs ← fr; pure (x :: xs) : M (List R)) s1 := by
          show M.bind fa _ ds = _
          unfold M.bind
          rw [h1]
        rw [e1] at h ⊢
        cases h2 : fr s1 with
        | none =>
          have : (do let xs ← fr; pure (x :: xs) : M (List R)) s1 = none := by
            show M.bind fr _ s1 = none
            unfold M.bind
            rw [h2]
          rw [this] at h
          cases h
        | some y =>
          cases y with
          | err c s2 =>
            have : (do let xs ← fr; pure (x :: xs) : M (List R)) s1 = some (.err c s2) := by
              show M.bind fr _ s1 = _
              unfold M.bind
              rw [h2]
            rw [this] at h
            cases h
          | ok y s2 =>
            have : (do let xs ← fr; pure (x :: xs) : M (List R)) s1 = some (.ok (x :: y) s2) := by
              show M.bind fr _ s1 = _
              unfold M.bind
              rw [h2]
              rfl
            rw [this]
            exact congrArg (· + 1) (k h2)
  rw [h] at p
  exact p
/-! ### a def as it stands behind the top -/
structure DefAt (K : PySem.W.Frag) (mg : Str → Option Value) (x : Str) (st : Stmt) (fA : Addr) (fd : FuncData) (cd : Value) : Prop where
  ex : ∃ (oc : Value) (od : Option Addr) (kV doc pm : Value) (an : Option Addr) (ct : Value) (osl : Array (Option Value)),
    fd = PySem.W.fnOf x x (defArgs st) (defBody st) (defScope st) .none kV doc pm an cd ct ∧ K.lookup fA = some ⟨oc, od, .func fd, osl⟩ ∧ PySem.W.codeIn K cd x = true
  kp : PySem.W.keepIn K (.ref fA) = true
  mg : mg x = some (.ref fA)
section
variable {P : Program} {w : World} {K : PySem.W.Frag} {mg : Str → Option Value} {base : Heap}
theorem DefAt.ok {x : Str} {st : Stmt} {fA : Addr} {fd : FuncData} {cd : Value} {N ps : List Str} {k : Nat} {T : List (Addr × Option Str)} {cls : String → Option Value} {fb : M Fl} (D : DefAt K mg x st fA fd cd) (S : FnScope N ps (defScope st))
    (hbody : ∀ (A : Around) (outer : List Env) (s : Shared) (H : Hp) (E : XK) (G : Gh), G.K = K → G.T = T → G.cls = cls → Room k (A.deeper (envOfC x (defScope st) s.heap.objs.size fA cd)) →
      PSs (cxOf (CX P w) P w K mg base N x (defScope st) fA cd A outer s H E) (defBody st) (tS G (fun c d _ H' => E c d H') fb)) :
    FnOk P w K mg base (CX P w) (k + 1) fA fd ps (spD K T cls ps.length (runF N.length fb)) := by
  obtain ⟨oc, od, kV, doc, pm, an, ct, osl, rfl, lk, hcd⟩ := D.ex
  exact fnD lk hcd S hbody
theorem DefAt.lk {x : Str} {st : Stmt} {fA : Addr} {fd : FuncData} {cd : Value} (D : DefAt K mg x st fA fd cd) : ∃ (oc : Value) (od : Option Addr) (osl : Array (Option Value)), K.lookup fA = some ⟨oc, od, .func fd, osl⟩ := by
  obtain ⟨oc, od, kV, doc, pm, an, ct, osl, rfl, lk, hcd⟩ := D.ex
  exact ⟨_, _, _, lk⟩
theorem defAt_mk {x : Str} {st : Stmt} {fA : Addr} {cd : Value} {oc : Value} {od an : Option Addr} {kV doc pm ct : Value} {osl : Array (Option Value)} {h : Heap} (X : K.In h) (G : h.Ns mainGlobals mg)
    (a : PySem.W.nsIn K mainGlobals x = some (some (.ref fA))) (l : K.lookup fA = some ⟨oc, od, .func (PySem.W.fnOf x x (defArgs st) (defBody st) (defScope st) .none kV doc pm an cd ct), osl⟩) (c : PySem.W.codeIn K cd x = true) (k : PySem.W.keepIn K (.ref fA) = true) :
    DefAt K mg x st fA (PySem.W.fnOf x x (defArgs st) (defBody st) (defScope st) .none kV doc pm an cd ct) cd := ⟨⟨oc, od, kV, doc, pm, an, ct, osl, rfl, l, c⟩, k, PySem.W.mg_of X G a⟩
theorem DefAt.binds {x : Str} {st : Stmt} {fA : Addr} {fd : FuncData} {cd : Value} (D : DefAt K mg x st fA fd cd) {ps : List Str} (h : ∀ (kV doc pm : Value) (an : Option Addr) (cdv ct : Value) (us : List Value), us.length = ps.length → bindArgs (PySem.W.fnOf x x (defArgs st) (defBody st) (defScope st) .none kV doc pm an cdv ct) ⟨us, []⟩ = pure (ps.zip us)) : Binds K fd ps [] := by
  obtain ⟨oc, od, kV, doc, pm, an, ct, osl, rfl, lk, hcd⟩ := D.ex
  exact (fun_mk lk hcd D.kp).binds h
end
end Den
namespace LamX
open PySem PySem.Spec PyProof.Rows L2
/-- walk_ofTs, and what is known of the loose names -/
theorem walk_ofTsX {l : PySem.W.OpenLaw} {n k : Nat} {q : Program} {loose : List Str} {XP : (Str → Option Value) → Heap → Prop} {YP : World → Heap → Prop} {d : DefRec} {K : Params → PySem.W.Frag} {CX : World → CXT} {x : Str}
    (hn : l.most = some n) (hn2 : n ≤ sizeLine) (hdf : d.params.defaults = []) (hr : Room k callerA) (hY : ∀ (w : World) (h : Heap), YP w h → (K w.params).In h)
    (F : ∀ (w : World) (mg mb : Str → Option Value) (fa : Addr) (h : Heap) (mean : ExcName → Option Value), YP w h → XP mg h → Top q (PySem.W.looseW q loose) mean mg mb h → (K w.params).In h → h.Ns mainGlobals mg → mg d.name = some (.ref fa) → LawAtS l w (K w.params) (CX w) k n x mg fa h)
    (hCX : ∀ (w : World) (H : Hp) (s : Shared) (e : Value) (s' : Shared), CX w [] H s (fun _ _ _ => False) e s' → False) :
    PySem.W.WalkO q loose XP YP l.row.toRowW d [] (fun f vs => PySem.call f vs) := by
  refine Att.attach_callB hn hdf fun w s₀ s₁ mg mb fa o pm cd doc a vs ns G Y ho hd hcd hmg hobj hints hlen hbits hg => ?_
  have KX := hY w _ Y
  obtain ⟨fd, cs, sp, hT, nT, C, hb, hsp, hF⟩ := F w mg mb fa _ _ Y G.X G.T KX G.T.g hmg
  exact law_callTs KX G.T.g G.T.b G.T.builtins G.T.nolimit hg hT nT C G.T.bmain hobj hints (Nat.le_trans hlen hn2) hr hF hb (fun H hH hS => hsp H a ns hlen hbits hH hS) fun H e s' => hCX w H s₁ e s'
end LamX
/-! DenZB: comparisons as tests -/
namespace Den
open PySem PySem.Spec PyProof.Rows L2
section
variable {X : Cx} {G : Gh} {W : L2.WX} {a b : Expr} {pos : Pos} {fa fb : M R}
theorem dt_cmp {op : CmpOp} {r : R2} {g : R → R → M R} (ho : OpR X (compareOp op) r) (hg : Does2 G W r g) (hm : behindInMarks op b = false) (ha : PE X a (tD G W fa)) (hb : PE X b (tD G W fb)) :
    PT X (.Compare a [op] [b] pos) (tT G W (rT (rO g fa fb))) := pt_imp (pt_cmpR ho ha hb hm) fun σ H Q q => by
  obtain ⟨ds, ts, h, p⟩ := q
  refine tOp_of hg ⟨ds, ts, h, (Post.bind.mp p).mono (fun r ds1 p1 v H1 h1 => ?_) fun _ _ z => z⟩
  unfold asBool at p1
  split at p1
  · obtain ⟨Hd, h1'⟩ := id h1
    exact ⟨_, rep_bool (h1'.tmp _ List.mem_cons_self), p1 _ h1.pop⟩
  · exact p1.elim
section
variable (ha : PE X a (tD G W fa)) (hb : PE X b (tD G W fb))
include ha hb
theorem dt_lt : PT X (.Compare a [.Lt] [b] pos) (tT G W (rT (rO gLt fa fb))) := dt_cmp op_lt do_lt (nobehind b (by decide) (by decide)) ha hb
theorem dt_le : PT X (.Compare a [.LtE] [b] pos) (tT G W (rT (rO gLe fa fb))) := dt_cmp op_le do_le (nobehind b (by decide) (by decide)) ha hb
theorem dt_gt : PT X (.Compare a [.Gt] [b] pos) (tT G W (rT (rO gGt fa fb))) := dt_cmp op_gt do_gt (nobehind b (by decide) (by decide)) ha hb
theorem dt_ge : PT X (.Compare a [.GtE] [b] pos) (tT G W (rT (rO gGe fa fb))) := dt_cmp op_ge do_ge (nobehind b (by decide) (by decide)) ha hb
end
theorem dt_eq {k : Nat} (hK : X.K = G.K) (hr : Room k X.A) (ha : PE X a (tD G W fa)) (hb : PE X b (tD G W fb)) : PT X (.Compare a [.Eq] [b] pos) (tT G W (rT (rO gEq fa fb))) :=
  dt_cmp (hK ▸ op_eqD hr.units) do_eq (nobehind b (by decide) (by decide)) ha hb
theorem dt_ne {k : Nat} (hK : X.K = G.K) (hr : Room k X.A) (ha : PE X a (tD G W fa)) (hb : PE X b (tD G W fb)) : PT X (.Compare a [.NotEq] [b] pos) (tT G W (rT (rO gNe fa fb))) :=
  dt_cmp (hK ▸ op_neD hr.units) do_ne (nobehind b (by decide) (by decide)) ha hb
theorem dt_in (hK : X.K = G.K) (hm : behindInMarks .In b = false) (ha : PE X a (tD G W fa)) (hb : PE X b (tD G W fb)) : PT X (.Compare a [.In] [b] pos) (tT G W (rT (rO (gIn false) fa fb))) :=
  dt_cmp (hK ▸ op_in_seq) do_in hm ha hb
theorem dt_notIn (hK : X.K = G.K) (hm : behindInMarks .NotIn b = false) (ha : PE X a (tD G W fa)) (hb : PE X b (tD G W fb)) : PT X (.Compare a [.NotIn] [b] pos) (tT G W (rT (rO (gIn true) fa fb))) :=
  dt_cmp (hK ▸ op_notIn_seq) do_in hm ha hb
theorem dt_isN (hm : behindInMarks .Is b = false) (ha : PE X a (tD G W fa)) (hb : PE X b (tD G W fb)) : PT X (.Compare a [.Is] [b] pos) (tT G W (rT (rO (gIsN false) fa fb))) :=
  dt_cmp (r := fun x y H Q => y = .non ∧ Q (.bl (if false = true then !decide (x = .non) else decide (x = .non))) H) (fun pins s σ H x y v u Q I rx ry q => op_isN pins s σ H x y v u Q I rx ry q) do_isN hm ha hb
theorem dt_notN (hm : behindInMarks .IsNot b = false) (ha : PE X a (tD G W fa)) (hb : PE X b (tD G W fb)) : PT X (.Compare a [.IsNot] [b] pos) (tT G W (rT (rO (gIsN true) fa fb))) :=
  dt_cmp (r := fun x y H Q => y = .non ∧ Q (.bl (if true = true then !decide (x = .non) else decide (x = .non))) H) (fun pins s σ H x y v u Q I rx ry q => op_notN pins s σ H x y v u Q I rx ry q) do_isN hm ha hb
theorem dt_isB (hm : behindInMarks .Is b = false) (ha : PE X a (tD G W fa)) (hb : PE X b (tD G W fb)) : PT X (.Compare a [.Is] [b] pos) (tT G W (rT (rO (gIsB false) fa fb))) :=
  dt_cmp (r := fun x y H Q => ∃ a b, x = .bl a ∧ y = .bl b ∧ Q (.bl (if false = true then !decide (a = b) else decide (a = b))) H) (fun pins s σ H x y v u Q I rx ry q => op_is_bl pins s σ H x y v u Q I rx ry q) do_isB hm ha hb
theorem dt_notB (hm : behindInMarks .IsNot b = false) (ha : PE X a (tD G W fa)) (hb : PE X b (tD G W fb)) : PT X (.Compare a [.IsNot] [b] pos) (tT G W (rT (rO (gIsB true) fa fb))) :=
  dt_cmp (r := fun x y H Q => ∃ a b, x = .bl a ∧ y = .bl b ∧ Q (.bl (if true = true then !decide (a = b) else decide (a = b))) H) (fun pins s σ H x y v u Q I rx ry q => op_isnot_bl pins s σ H x y v u Q I rx ry q) do_isB hm ha hb
end
end Den
namespace Den
open PySem PySem.Spec PyProof.Rows L2

def topS (i : Nat) : Stmt := PySem.Challenge.pw_factorsagree_k70_whole_papers_of_peaks.main.body.getD i (.Pass ⟨0, 0, 0, 0⟩)
structure Cst (mg : Str → Option Value) : Prop where
  c_MOST_TASKS : ∃ t, mg "MOST_TASKS" = some (.int 60 t)
  c_MOST_CELLS : ∃ t, mg "MOST_CELLS" = some (.int 1000000 t)
  c_MOST_BOUND : ∃ t, mg "MOST_BOUND" = some (.int 61000000 t)
structure Blt (mg : Str → Option Value) : Prop where
  b_abs : mg "abs" = none
  b_all : mg "all" = none
  b_any : mg "any" = none
  b_bool : mg "bool" = none
  b_dict : mg "dict" = none
  b_enumerate : mg "enumerate" = none
  b_int : mg "int" = none
  b_isinstance : mg "isinstance" = none
  b_len : mg "len" = none
  b_list : mg "list" = none
  b_max : mg "max" = none
  b_min : mg "min" = none
  b_range : mg "range" = none
  b_reversed : mg "reversed" = none
  b_sorted : mg "sorted" = none
  b_str : mg "str" = none
  b_sum : mg "sum" = none
  b_tuple : mg "tuple" = none
theorem bt_abs : bootBuiltins "abs" = some (.builtin "abs") := by decide +kernel
theorem bt_bool : bootBuiltins "bool" = some (.type "bool") := by decide +kernel
theorem bt_dict : bootBuiltins "dict" = some (.type "dict") := by decide +kernel
theorem bt_int : bootBuiltins "int" = some (.type "int") := by decide +kernel
theorem bt_isinstance : bootBuiltins "isinstance" = some (.builtin "isinstance") := by decide +kernel
theorem bt_len : bootBuiltins "len" = some (.builtin "len") := by decide +kernel
theorem bt_list : bootBuiltins "list" = some (.type "list") := by decide +kernel
theorem bt_max : bootBuiltins "max" = some (.builtin "max") := by decide +kernel
theorem bt_min : bootBuiltins "min" = some (.builtin "min") := by decide +kernel
theorem bt_sorted : bootBuiltins "sorted" = some (.builtin "sorted") := by decide +kernel
theorem bt_str : bootBuiltins "str" = some (.type "str") := by decide +kernel
theorem bt_sum : bootBuiltins "sum" = some (.builtin "sum") := by decide +kernel
theorem bt_tuple : bootBuiltins "tuple" = some (.type "tuple") := by decide +kernel
theorem gxTab {base : Heap} {mg : Str → Option Value} {c P : Addr} (t : LamX.TabB base mg c P) : GxR.TabB base mg c P := ⟨t.code, t.bm, t.gP⟩
def Callee (P : Program) (w : World) (K : PySem.W.Frag) (mg : Str → Option Value) (base : Heap) (x : Str) (k : Nat) (ps : List Str) (n : Nat) (T : List (Addr × Option Str)) (cls : String → Option Value) (f : FD) : Prop :=
  ∃ (fA : Addr) (fd : FuncData), FnOk P w K mg base (CX P w) k fA fd ps (spD K T cls n f) ∧ mg x = some (.ref fA) ∧ PySem.W.keepIn K (.ref fA) = true ∧ Binds K fd ps [] ∧ ∃ (oc : Value) (od : Option Addr) (osl : Array (Option Value)), K.lookup fA = some ⟨oc, od, .func fd, osl⟩
theorem Callee.none {P : Program} {w : World} {K : PySem.W.Frag} {mg : Str → Option Value} {base : Heap} {x : Str} {k : Nat} {ps : List Str} {n : Nat} {T : List (Addr × Option Str)} {cls : String → Option Value} {fA : Addr} {fd : FuncData}
    (m : mg x = some (.ref fA)) (kp : PySem.W.keepIn K (.ref fA) = true) (b : Binds K fd ps []) (lk : ∃ (oc : Value) (od : Option Addr) (osl : Array (Option Value)), K.lookup fA = some ⟨oc, od, .func fd, osl⟩) (hn : n = ps.length) : Callee P w K mg base x k ps n T cls (fun _ => Option.none) :=
  ⟨fA, fd, ⟨fun vs H Q E h => h.1.trans hn, fun A outer s H args us vs Q E _ _ _ _ h => by
    obtain ⟨_, G, as, _, _, _, _, z⟩ := h
    exact z.elim⟩, m, kp, b, lk⟩
section
variable {X : Cx} {G : Gh} {W : L2.WX}
theorem de_gintE {x : Str} {pos : Pos} {i : Int} (hg : Gl X x) (h : ∃ t, X.mg x = some (.int i t)) (hd : (x == ("__debug__" : Str)) = false := by decide) : PE X (.Name x pos) (tD G W (pure (.dat (.int i)))) := by
  obtain ⟨t, h⟩ := h
  exact de_gint hg h hd
theorem de_callC {x : Str} {e : Expr} {es : List Expr} {fr : M (List R)} {p pos : Pos} {k : Nat} {ps : List Str} {n : Nat} {fD : FD} (ms : List Bool) (hK : X.K = G.K) (C : Callee X.prog X.w X.K X.mg X.base x k ps n G.T G.cls fD) (hr : Room k X.A) (hg : Gl X x)
    (tk : Takes X W) (ha : PA X (e :: es) (tA G W fr)) (hlen : ∀ {ds : DS} {rs : List R} {s : DS}, fr ds = some (.ok rs s) → rs.length = n) (hn : n = es.length + 1 := by rfl) (hdb : (x == ("__debug__" : Str)) = false := by decide) (he : starEach (e :: es) X.env = (false, eval e X.env) :: starEach es X.env := by rfl)
    (hpl : (backTo pos (starEach es X.env)).any (·.1) = false := by rfl) : PE X (.Call (.Name x p) (e :: es) [] pos) (tD G W (do let rs ← fr; callD fD ms rs)) := by
  subst hn
  obtain ⟨fA, fd, F, m, kp, b, _⟩ := C
  rw [hK] at F
  have F' : FnOk X.prog X.w X.K X.mg X.base (CX X.prog X.w) k fA fd ps (spD G.K G.T G.cls (es.length + 1) fD) := by
    rw [hK]
    exact F
  exact de_call ms F' hr hg m kp b tk ha hlen hdb he hpl
end
end Den
/-! DenZC: the end of a law -/
namespace Den
open PySem PySem.Spec PyProof.Rows L2
theorem tabN_start {H : Hp} {P : Addr × Option Str} (h : H P.1 = some (.tbl #[])) : TabN H P := by
  unfold TabN
  split
  · exact ⟨#[], h, trivial⟩
  · exact ⟨#[], h, trivial, fun pos cv z => by cases z⟩
theorem sp_start {K : PySem.W.Frag} {T : List (Addr × Option Str)} {cls : String → Option Value} {f : FD} {H : Hp} {a : Addr} {ns : List Int} (hS : SqL K H a (ns.map V.int)) (hT : ∀ P ∈ T, H P.1 = some (.tbl #[])) (hn : ∀ P ∈ T, K.lookup P.1 = none)
    (hf : ∃ outs, f [(false, scriptD (ns.map .int))] = some (.ok (.dat (.bool true)) outs)) : spD K T cls 1 f [.ref a] H (fun v _ => v = .bl true) fun _ _ _ => False := by
  obtain ⟨outs, hf⟩ := hf
  refine ⟨rfl, ⟨K, fun _ => none, fun b => if b = a then H a else none, fun _ => none, T, cls⟩, [(false, scriptD (ns.map .int))], rfl, rfl, rfl, ⟨rfl, fun i d e => ?_, fun i d e => ?_, fun i j p e => ?_, ?_, (fun b o z => by cases z), fun b o z => ?_, fun P hP => ⟨tabN_start (hT P hP), ?_, rfl⟩⟩, ?_⟩
  · cases i with
    | zero =>
      cases e
      refine ⟨.ref a, rfl, .scr (xs := ns.map V.int) ?_ (RepAll.ints ns)⟩
      rcases hS with h | h
      · refine .inl ?_
        rcases h with h | ⟨o, h⟩
        · exact .inl ((if_pos rfl).trans h)
        · exact .inr ⟨o, (if_pos rfl).trans h⟩
      · exact .inr h
    | succ i => cases e
  · cases i with
    | zero => cases e
    | succ i => cases e
  · cases i with
    | zero => cases e
    | succ i => cases e
  · funext i
    cases i with
    | zero => rfl
    | succ i => rfl
  · have z' : (if b = a then H a else none) = some o := z
    split at z'
    · rename_i e
      rw [e]
      exact z'
    · cases z'
  · show (if P.1 = a then H a else none) = none
    split
    · rename_i e
      have q := hT P hP
      rw [e] at q
      rcases hS with h | ⟨o, its, n, h, _⟩
      · rcases h with h | ⟨o, h⟩
        · rw [h] at q
          cases q
        · rw [h] at q
          cases q
      · have z := hn P hP
        rw [e, h] at z
        cases z
    · rfl
  · rw [hf]
    exact fun v H' Hd' _ r => rep_bool r
theorem hU_of {T : List (Addr × Option Str)} (nd : (T.map (·.1)).Nodup) {P : Addr} {q : Option Str} (h : (P, q) ∈ T) : ∀ Q ∈ T, Q.1 = P → Q = (P, q) := by
  induction T with
  | nil => cases h
  | cons x r ih =>
    obtain ⟨n1, n2⟩ := List.nodup_cons.mp nd
    intro Q hQ e
    rcases List.mem_cons.mp h with e1 | h1
    · rcases List.mem_cons.mp hQ with e2 | h2
      · rw [e2, e1]
      · exact absurd (List.mem_map.mpr ⟨Q, h2, by rw [e, ← e1]⟩) n1
    · rcases List.mem_cons.mp hQ with e2 | h2
      · exact absurd (List.mem_map.mpr ⟨(P, q), h1, (show P = x.1 by rw [← e2]; exact e.symm)⟩) n1
      · exact ih n2 h1 Q h2 e
theorem law_at {l : PySem.W.OpenLaw} {w : World} {K : PySem.W.Frag} {mg : Str → Option Value} {h : Heap} {fa : Addr} {fd : FuncData} {cd : Value} {st : Stmt} {k : Nat} {T : List (Addr × Option Str)} {cls : String → Option Value} {f : FD} (cs : List (Addr × Addr))
    (D : DefAt K mg "law" st fa fd cd) (hb : ∀ (s : Shared) (u : Value), BindsTo s fd ⟨[u], []⟩ [("script", u)]) (hC : ∀ p ∈ cs, PySem.W.CodeHd h p.1 p.2 ∧ h.get? p.2 = some { cls := .none, data := .fields #[] }) (nT : ∀ p ∈ cs, K.lookup p.2 = none) (hT : ∀ P ∈ T, ∃ p ∈ cs, P.1 = p.2)
    (F : ∀ base : Heap, (∀ p ∈ cs, LamX.TabB base mg p.1 p.2) → Callee l.prog w K mg base "law" k ["script"] 1 T cls f)
    (plain : ∀ ns : List Int, ns.length ≤ 63 → (∀ z ∈ ns, Builtin.Int.intBits z ≤ 1048576) → ∃ outs, f [(false, scriptD (ns.map .int))] = some (.ok (.dat (.bool true)) outs)) :
    LamX.LawAtS l w K (CX l.prog w) k 63 "script" mg fa h := by
  refine ⟨fd, cs, spD K T cls 1 f, fun p hp => (hC p hp).2, nT, fun p hp => (hC p hp).1, hb, fun H a ns hl hbits hH hS => sp_start hS (fun P hP => ?_) (fun P hP => ?_) (plain ns hl hbits), fun base kb nb tb => ?_⟩
  · obtain ⟨p, hp, e⟩ := hT P hP
    rw [e]
    exact hH p hp
  · obtain ⟨p, hp, e⟩ := hT P hP
    rw [e]
    exact nT p hp
  · obtain ⟨fA', fd', F', m, kp, b, _, _, _, lk⟩ := F base tb
    have e1 := D.mg.symm.trans m
    cases e1
    obtain ⟨_, _, _, lk2⟩ := D.lk
    have e2 := lk2.symm.trans lk
    cases e2
    exact F'
theorem cx_no {P : Program} {w : World} (H : Hp) (s : Shared) (e : Value) (s' : Shared) : CX P w [] H s (fun _ _ _ => False) e s' → False := by
  intro h
  obtain ⟨_, _, _, _, _, _, _, _, _, _, _, _, z⟩ := h
  exact z
theorem cst_of {q : Program} {lv : List (Str × PySem.W.WData)} {mg : Str → Option Value} {h : Heap} (X : PySem.W.XL q lv mg h) {x : Str} {i : Int} (hx : (x, PySem.W.WData.int i) ∈ lv) : ∃ t, mg x = some (.int i t) := by
  obtain ⟨v, e, r⟩ := X.2.val _ hx
  cases r
  exact ⟨_, e⟩
end Den
namespace Den
open PySem PySem.Spec PyProof.Rows L2
section
variable {P : Program} {w : World} {K : PySem.W.Frag} {mg : Str → Option Value} {base : Heap} {T : List (Addr × Option Str)} {cls : String → Option Value}
/-! ### is_number -/
abbrev s_is_number : Stmt := topS 1
theorem sc_is_number : FnScope ["value", "least", "most"] ["value", "least", "most"] (defScope s_is_number) := ⟨rfl, rfl, rfl, by decide +kernel, rfl, by decide +kernel, by decide +kernel⟩
def b_is_number : M Fl :=
 (rRet (andD (rIsi "int" (getSl 0)) (andD (rNotE (rIsi "bool" (getSl 0))) (chain (getSl 1) (getSl 0) (getSl 2) gLe gLe))))
def f_is_number : FD := runF 3 (b_is_number)
theorem ok_is_number {fA : Addr} {fd : FuncData} {cd : Value} (D : DefAt K mg "is_number" s_is_number fA fd cd) (B : Blt mg) : Callee P w K mg base "is_number" 1 ["value", "least", "most"] 3 T cls (f_is_number) :=
  ⟨_, _, D.ok sc_is_number fun A outer s H E G hK hT hc hr => by
    subst hK hT hc
    exact (dss_one (ds_ret (de_and (de_isi (T := "int") (by rfl) B.b_isinstance bt_isinstance (by rfl) B.b_int bt_int (by decide +kernel) (de_var (pv 0)) rfl) (de_and (de_not (de_isi (T := "bool") (by rfl) B.b_isinstance bt_isinstance (by rfl) B.b_bool bt_bool (by decide +kernel) (de_var (pv 0)) rfl)) (de_one (de_chain op_le do_le op_le do_le (de_var (pv 1)) (de_var (pv 0)) (de_var (pv 2)))))))),
    D.mg, D.kp, D.binds fun _ _ _ _ _ _ us hl => match us, hl with | [_, _, _], _ => rfl, D.lk⟩
/-! ### children_in -/
abbrev s_children_in : Stmt := topS 5
theorem sc_children_in : FnScope ["tasks", "found", "number", "parent", "_"] ["tasks"] (defScope s_children_in) := ⟨rfl, rfl, rfl, by decide +kernel, rfl, by decide +kernel, by decide +kernel⟩
def b_children_in : M Fl :=
 (thenS (rAsg (lcD [4] (rItems (getSl 0)) (putSl 4) (pure true) (rC mkT rA0)) (putSl 1))
 (thenS (rFor (rGo enumOf (rAc (getSl 0) rA0)) (unT 2 (gsCons (putSl 2) (gsCons (unT 3 (gsCons (putSl 3) (gsCons (putSl 4) (gsCons (putSl 4) gsNil)))) gsNil)))
 (rIf (rT (rO (gIsN true) (getSl 3) rN))
 (rAsg (rC mkT (starD (rO gIx (getSl 1) (getSl 3)) (rAc (getSl 2) rA0))) (rSub (getSl 1) (getSl 3)))
 (pure .nx)))
 (rRet (rC gTuple (rAc (getSl 1) rA0)))))
def f_children_in : FD := runF 5 (b_children_in)
theorem ok_children_in {fA : Addr} {fd : FuncData} {cd : Value} (D : DefAt K mg "children_in" s_children_in fA fd cd) (B : Blt mg) : Callee P w K mg base "children_in" 1 ["tasks"] 1 T cls (f_children_in) :=
  ⟨_, _, D.ok sc_children_in fun A outer s H E G hK hT hc hr => by
    subst hK hT hc
    exact (dss_cons (ds_setLc (i := 1) (own := [("_", 4)]) rfl sc_children_in.nd rfl rfl rfl (di_seq rfl (de_var (pv 0))) (blkOk_by (by rfl)) (fun _ _ _ _ _ => (dg_name (pg_name (i := 4) sc_children_in.nd rfl (by first | exact Or.inl rfl | exact Or.inr rfl)) (by intro l h; cases h <;> decide))) (fun _ _ _ _ _ => dts_nil) (fun _ _ _ _ _ => (de_tup da_nil)))
 (dss_cons (ds_for (passes_of rfl) rfl (di_enum rfl (by rfl) B.b_enumerate (da_cons (de_var (pv 0)) da_nil)) (dg_tup rfl rfl (dgs_cons (dg_name (pg_name (i := 2) sc_children_in.nd rfl (by first | exact Or.inl rfl | exact Or.inr rfl)) (by intro l h; cases h <;> decide)) (dgs_cons (dg_tup rfl rfl (dgs_cons (dg_name (pg_name (i := 3) sc_children_in.nd rfl (by first | exact Or.inl rfl | exact Or.inr rfl)) (by intro l h; cases h <;> decide)) (dgs_cons (dg_name (pg_name (i := 4) sc_children_in.nd rfl (by first | exact Or.inl rfl | exact Or.inr rfl)) (by intro l h; cases h <;> decide)) (dgs_cons (dg_name (pg_name (i := 4) sc_children_in.nd rfl (by first | exact Or.inl rfl | exact Or.inr rfl)) (by intro l h; cases h <;> decide)) dgs_nil)))) dgs_nil)))
 (dss_one (ds_if (dt_notN (by rfl) (de_var (pv 3)) de_non)
 (dss_one (ds_asg (de_tup (da_star rfl (de_ix rfl hr (de_var (pv 1)) (de_var (pv 3)) (fun _ _ => rfl)) (da_cons (de_var (pv 2)) da_nil))) (dg_sub hr (de_var (pv 1)) (de_var (pv 3)))))
 dss_nil)))
 (dss_one (ds_ret (de_callTy call_tuple_of do_tuple (by rfl) B.b_tuple bt_tuple (da_cons (de_var (pv 1)) da_nil)))))),
    D.mg, D.kp, D.binds fun _ _ _ _ _ _ us hl => match us, hl with | [_], _ => rfl, D.lk⟩
/-! ### tops_in -/
abbrev s_tops_in : Stmt := topS 6
theorem sc_tops_in : FnScope ["tasks", "number", "row"] ["tasks"] (defScope s_tops_in) := ⟨rfl, rfl, rfl, by decide +kernel, rfl, by decide +kernel, by decide +kernel⟩
def b_tops_in : M Fl :=
 (rRet (rC gTuple (rAc (lcD [1, 2] (rGo enumOf (rAc (getSl 0) rA0)) (unT 2 (gsCons (putSl 1) (gsCons (putSl 2) gsNil))) (rT (rO (gIsN false) (rO gIx (getSl 2) (rI 0)) rN)) (getSl 1)) rA0)))
def f_tops_in : FD := runF 3 (b_tops_in)
theorem ok_tops_in {fA : Addr} {fd : FuncData} {cd : Value} (D : DefAt K mg "tops_in" s_tops_in fA fd cd) (B : Blt mg) : Callee P w K mg base "tops_in" 1 ["tasks"] 1 T cls (f_tops_in) :=
  ⟨_, _, D.ok sc_tops_in fun A outer s H E G hK hT hc hr => by
    subst hK hT hc
    exact (dss_one (ds_ret (de_callTy call_tuple_of do_tuple (by rfl) B.b_tuple bt_tuple (da_cons (de_lc (own := [("number", 1), ("row", 2)]) rfl sc_tops_in.nd (di_enum rfl (by rfl) B.b_enumerate (da_cons (de_var (pv 0)) da_nil)) (blkOk_by (by rfl)) (fun _ _ _ _ _ => (dg_tup rfl rfl (dgs_cons (dg_name (pg_name (i := 1) sc_tops_in.nd rfl (by first | exact Or.inl rfl | exact Or.inr rfl)) (by intro l h; cases h <;> decide)) (dgs_cons (dg_name (pg_name (i := 2) sc_tops_in.nd rfl (by first | exact Or.inl rfl | exact Or.inr rfl)) (by intro l h; cases h <;> decide)) dgs_nil)))) (fun _ _ _ _ _ => (dts_one (dt_isN (by rfl) (de_ix rfl hr (de_var (pv 2)) de_int (fun _ _ => rfl)) de_non))) (fun _ _ _ _ _ => (de_var (pv 1)))) da_nil)))),
    D.mg, D.kp, D.binds fun _ _ _ _ _ _ us hl => match us, hl with | [_], _ => rfl, D.lk⟩
/-! ### in_turn -/
abbrev s_in_turn : Stmt := topS 8
theorem sc_in_turn : FnScope ["tasks", "peaks", "children", "child"] ["tasks", "peaks", "children"] (defScope s_in_turn) := ⟨rfl, rfl, rfl, by decide +kernel, rfl, by decide +kernel, by decide +kernel⟩
def b_in_turn : M Fl :=
 (rRet (sortKD 3 (getSl 2) (rC mkT (rAc (rO gSub (rO gIx (rO gIx (getSl 0) (getSl 3)) (rI 2)) (rO gIx (getSl 1) (getSl 3))) (rAc (getSl 3) rA0)))))
def f_in_turn : FD := runF 4 (b_in_turn)
theorem ok_in_turn {fA : Addr} {fd : FuncData} {cc Pt : Addr} (D : DefAt K mg "in_turn" s_in_turn fA fd (.ref cc)) (B : Blt mg) (TB : LamX.TabB base mg cc Pt) (hP : (Pt, some (("in_turn.<locals>." : Str) ++ ("<lambda>" : Str))) ∈ T) (hU : ∀ Q ∈ T, Q.1 = Pt → Q = (Pt, some (("in_turn.<locals>." : Str) ++ ("<lambda>" : Str)))) : Callee P w K mg base "in_turn" 3 ["tasks", "peaks", "children"] 3 T cls (f_in_turn) :=
  ⟨_, _, D.ok sc_in_turn fun A outer s H E G hK hT hc hr => by
    subst hK hT hc
    exact (dss_one (ds_ret (de_sortKey (ix := 3) (x := "child") rfl hr sc_in_turn.nd (by rfl) B.b_sorted bt_sorted TB rfl hP hU ⟨blkOk_by (by rfl), rfl, rfl, by decide +kernel, rfl⟩ rfl (fun _ _ _ _ _ => rfl) (de_var (pv 2)) (fun _ _ _ _ => (de_tup (da_cons (de_sub (de_ix rfl (room_lam hr) (de_ix rfl (room_lam hr) (de_var (pv 0)) (de_var (pv 3)) (fun _ _ => rfl)) de_int (fun _ _ => rfl)) (de_ix rfl (room_lam hr) (de_var (pv 1)) (de_var (pv 3)) (fun _ _ => rfl))) (da_cons (de_var (pv 3)) da_nil))))))),
    D.mg, D.kp, D.binds fun _ _ _ _ _ _ us hl => match us, hl with | [_, _, _], _ => rfl, D.lk⟩
end
end Den
namespace Den
open PySem PySem.Spec PyProof.Rows L2
section
variable {P : Program} {w : World} {K : PySem.W.Frag} {mg : Str → Option Value} {base : Heap} {T : List (Addr × Option Str)} {cls : String → Option Value}
/-! ### least_peaks -/
abbrev s_least_peaks : Stmt := topS 9
theorem sc_least_peaks : FnScope ["tasks", "below", "found", "task", "_", "front", "held", "most", "child"] ["tasks"] (defScope s_least_peaks) := ⟨rfl, rfl, rfl, by decide +kernel, rfl, by decide +kernel, by decide +kernel⟩
def b_least_peaks : M Fl :=
 (thenS (tupN 2 (rAc (rC (callD f_children_in [false]) (rAc (getSl 0) rA0)) (rAc (pure (.new (.dict []))) rA0)) (gsCons (putSl 1) (gsCons (putSl 2) gsNil)))
 (thenS (rFor (rGo enumOf (rAc (getSl 0) rA0)) (unT 2 (gsCons (putSl 3) (gsCons (unT 3 (gsCons (putSl 4) (gsCons (putSl 5) (gsCons (putSl 4) gsNil)))) gsNil)))
 (thenS (tupN 2 (rAc (rI 0) (rAc (rI 0) rA0)) (gsCons (putSl 6) (gsCons (putSl 7) gsNil)))
 (thenS (rFor (rItems (rC (callD f_in_turn [false, true, false]) (rAc (getSl 0) (rAc (getSl 2) (rAc (rO gIx (getSl 1) (getSl 3)) rA0))))) (putSl 8)
 (thenS (rAsg (rC gMax (rAc (getSl 7) (rAc (rO gAdd (getSl 6) (rO gIx (getSl 2) (getSl 8))) rA0))) (putSl 7))
 (rAug (fun i j => i + j) 6 (rO gIx (rO gIx (getSl 0) (getSl 8)) (rI 2)))))
 (rAsg (rC gMax (rAc (getSl 7) (rAc (rO gAdd (getSl 6) (getSl 5)) rA0))) (rSub (getSl 2) (getSl 3))))))
 (rRet (rC gTuple (rAc (lcD [3] (rGo rng1 (rAc (rC gLen (rAc (getSl 0) rA0)) rA0)) (putSl 3) (pure true) (rO gIx (getSl 2) (getSl 3))) rA0)))))
def f_least_peaks : FD := runF 9 (b_least_peaks)
theorem ok_least_peaks {fA : Addr} {fd : FuncData} {cd : Value} (D : DefAt K mg "least_peaks" s_least_peaks fA fd cd) (B : Blt mg) (C_children_in : Callee P w K mg base "children_in" 1 ["tasks"] 1 T cls f_children_in) (C_in_turn : Callee P w K mg base "in_turn" 3 ["tasks", "peaks", "children"] 3 T cls f_in_turn) : Callee P w K mg base "least_peaks" 4 ["tasks"] 1 T cls (f_least_peaks) :=
  ⟨_, _, D.ok sc_least_peaks fun A outer s H E G hK hT hc hr => by
    subst hK hT hc
    exact (dss_cons (ds_tupN rfl rfl (da_cons (de_callC [false] rfl C_children_in (hr.mono (by omega)) (by rfl) (takes_of rfl rfl rfl rfl) (da_cons (de_var (pv 0)) da_nil) (lenA_cons lenA_nil)) (da_cons de_dict0 da_nil)) (dgs_cons (dg_name (pg_name (i := 1) sc_least_peaks.nd rfl (by first | exact Or.inl rfl | exact Or.inr rfl)) (by intro l h; cases h <;> decide)) (dgs_cons (dg_name (pg_name (i := 2) sc_least_peaks.nd rfl (by first | exact Or.inl rfl | exact Or.inr rfl)) (by intro l h; cases h <;> decide)) dgs_nil)))
 (dss_cons (ds_for (passes_of rfl) rfl (di_enum rfl (by rfl) B.b_enumerate (da_cons (de_var (pv 0)) da_nil)) (dg_tup rfl rfl (dgs_cons (dg_name (pg_name (i := 3) sc_least_peaks.nd rfl (by first | exact Or.inl rfl | exact Or.inr rfl)) (by intro l h; cases h <;> decide)) (dgs_cons (dg_tup rfl rfl (dgs_cons (dg_name (pg_name (i := 4) sc_least_peaks.nd rfl (by first | exact Or.inl rfl | exact Or.inr rfl)) (by intro l h; cases h <;> decide)) (dgs_cons (dg_name (pg_name (i := 5) sc_least_peaks.nd rfl (by first | exact Or.inl rfl | exact Or.inr rfl)) (by intro l h; cases h <;> decide)) (dgs_cons (dg_name (pg_name (i := 4) sc_least_peaks.nd rfl (by first | exact Or.inl rfl | exact Or.inr rfl)) (by intro l h; cases h <;> decide)) dgs_nil)))) dgs_nil)))
 (dss_cons (ds_tupN rfl rfl (da_cons de_int (da_cons de_int da_nil)) (dgs_cons (dg_name (pg_name (i := 6) sc_least_peaks.nd rfl (by first | exact Or.inl rfl | exact Or.inr rfl)) (by intro l h; cases h <;> decide)) (dgs_cons (dg_name (pg_name (i := 7) sc_least_peaks.nd rfl (by first | exact Or.inl rfl | exact Or.inr rfl)) (by intro l h; cases h <;> decide)) dgs_nil)))
 (dss_cons (ds_for (passes_of rfl) rfl (di_seq rfl (de_callC [false, true, false] rfl C_in_turn (hr.mono (by omega)) (by rfl) (takes_of rfl rfl rfl rfl) (da_cons (de_var (pv 0)) (da_cons (de_var (pv 2)) (da_cons (de_ix rfl hr (de_var (pv 1)) (de_var (pv 3)) (fun _ _ => rfl)) da_nil))) (lenA_cons (lenA_cons (lenA_cons lenA_nil))))) (dg_name (pg_name (i := 8) sc_least_peaks.nd rfl (by first | exact Or.inl rfl | exact Or.inr rfl)) (by intro l h; cases h <;> decide))
 (dss_cons (ds_set (ps_set (i := 7) sc_least_peaks.nd rfl (by first | exact Or.inl rfl | exact Or.inr rfl) (de_callB (CallR.or (call_max2 rfl) (cr_max rfl)) do_max (by rfl) B.b_max bt_max (da_cons (de_var (pv 7)) (da_cons (de_add rfl (de_var (pv 6)) (de_ix rfl hr (de_var (pv 2)) (de_var (pv 8)) (fun _ _ => rfl))) da_nil)))))
 (dss_one (ds_aug (ps_aug (i := 6) sc_least_peaks.nd rfl (by first | exact Or.inl rfl | exact Or.inr rfl) (de_ix rfl hr (de_ix rfl hr (de_var (pv 0)) (de_var (pv 8)) (fun _ _ => rfl)) de_int (fun _ _ => rfl)) ip_add)))))
 (dss_one (ds_asg (de_callB (CallR.or (call_max2 rfl) (cr_max rfl)) do_max (by rfl) B.b_max bt_max (da_cons (de_var (pv 7)) (da_cons (de_add rfl (de_var (pv 6)) (de_var (pv 5))) da_nil))) (dg_sub hr (de_var (pv 2)) (de_var (pv 3))))))))
 (dss_one (ds_ret (de_callTy call_tuple_of do_tuple (by rfl) B.b_tuple bt_tuple (da_cons (de_lc (own := [("task", 3)]) rfl sc_least_peaks.nd (di_range1 (by rfl) B.b_range (da_cons (de_callB (CallR.or call_len_seq (CallR.or call_lenD call_len_str)) do_len (by rfl) B.b_len bt_len (da_cons (de_var (pv 0)) da_nil)) da_nil)) (blkOk_by (by rfl)) (fun _ _ _ _ _ => (dg_name (pg_name (i := 3) sc_least_peaks.nd rfl (by first | exact Or.inl rfl | exact Or.inr rfl)) (by intro l h; cases h <;> decide))) (fun _ _ _ _ _ => dts_nil) (fun _ _ _ _ _ => (de_ix rfl hr (de_var (pv 2)) (de_var (pv 3)) (fun _ _ => rfl)))) da_nil)))))),
    D.mg, D.kp, D.binds fun _ _ _ _ _ _ us hl => match us, hl with | [_], _ => rfl, D.lk⟩
/-! ### last_bound -/
abbrev s_last_bound : Stmt := topS 12
theorem sc_last_bound : FnScope ["tasks", "bounds", "some", "held", "child"] ["tasks", "bounds", "some"] (defScope s_last_bound) := ⟨rfl, rfl, rfl, by decide +kernel, rfl, by decide +kernel, by decide +kernel⟩
def b_last_bound : M Fl :=
 (thenS (rAsg (rC gSum (rAc (lcD [4] (rItems (getSl 2)) (putSl 4) (pure true) (rO gIx (rO gIx (getSl 0) (getSl 4)) (rI 2))) rA0)) (putSl 3))
 (rRet (rC gMin (rAc (lcD [4] (rItems (getSl 2)) (putSl 4) (pure true) (rO gAdd (rO gSub (getSl 3) (rO gIx (rO gIx (getSl 0) (getSl 4)) (rI 2))) (rO gIx (getSl 1) (getSl 4)))) rA0))))
def f_last_bound : FD := runF 5 (b_last_bound)
theorem ok_last_bound {fA : Addr} {fd : FuncData} {cd : Value} (D : DefAt K mg "last_bound" s_last_bound fA fd cd) (B : Blt mg) : Callee P w K mg base "last_bound" 1 ["tasks", "bounds", "some"] 3 T cls (f_last_bound) :=
  ⟨_, _, D.ok sc_last_bound fun A outer s H E G hK hT hc hr => by
    subst hK hT hc
    exact (dss_cons (ds_set (ps_set (i := 3) sc_last_bound.nd rfl (by first | exact Or.inl rfl | exact Or.inr rfl) (de_callB (cr_sum rfl) do_sum (by rfl) B.b_sum bt_sum (da_cons (de_lc (own := [("child", 4)]) rfl sc_last_bound.nd (di_seq rfl (de_var (pv 2))) (blkOk_by (by rfl)) (fun _ _ _ _ _ => (dg_name (pg_name (i := 4) sc_last_bound.nd rfl (by first | exact Or.inl rfl | exact Or.inr rfl)) (by intro l h; cases h <;> decide))) (fun _ _ _ _ _ => dts_nil) (fun _ _ _ _ _ => (de_ix rfl hr (de_ix rfl hr (de_var (pv 0)) (de_var (pv 4)) (fun _ _ => rfl)) de_int (fun _ _ => rfl)))) da_nil))))
 (dss_one (ds_ret (de_callB (CallR.or (call_min2 rfl) (cr_min rfl)) do_min (by rfl) B.b_min bt_min (da_cons (de_lc (own := [("child", 4)]) rfl sc_last_bound.nd (di_seq rfl (de_var (pv 2))) (blkOk_by (by rfl)) (fun _ _ _ _ _ => (dg_name (pg_name (i := 4) sc_last_bound.nd rfl (by first | exact Or.inl rfl | exact Or.inr rfl)) (by intro l h; cases h <;> decide))) (fun _ _ _ _ _ => dts_nil) (fun _ _ _ _ _ => (de_add rfl (de_sub (de_var (pv 3)) (de_ix rfl hr (de_ix rfl hr (de_var (pv 0)) (de_var (pv 4)) (fun _ _ => rfl)) de_int (fun _ _ => rfl))) (de_ix rfl hr (de_var (pv 1)) (de_var (pv 4)) (fun _ _ => rfl))))) da_nil))))),
    D.mg, D.kp, D.binds fun _ _ _ _ _ _ us hl => match us, hl with | [_, _, _], _ => rfl, D.lk⟩
end
end Den
namespace Den
open PySem PySem.Spec PyProof.Rows L2
section
variable {P : Program} {w : World} {K : PySem.W.Frag} {mg : Str → Option Value} {base : Heap} {T : List (Addr × Option Str)} {cls : String → Option Value}
/-! ### told_some -/
abbrev s_told_some : Stmt := topS 13
theorem sc_told_some : FnScope ["tasks", "peaks", "task", "children", "held", "some", "best", "told", "child"] ["tasks", "peaks", "task", "children"] (defScope s_told_some) := ⟨rfl, rfl, rfl, by decide +kernel, rfl, by decide +kernel, by decide +kernel⟩
def b_told_some : M Fl :=
 (thenS (tupN 4 (rAc (rI 0) (rAc (rC mkL rA0) (rAc (rNeg (rI 1)) (rAc (rC mkT rA0) rA0)))) (gsCons (putSl 4) (gsCons (putSl 5) (gsCons (putSl 6) (gsCons (putSl 7) gsNil)))))
 (thenS (rFor (rItems (rC (callD f_in_turn [false, false, false]) (rAc (getSl 0) (rAc (getSl 1) (rAc (getSl 3) rA0))))) (putSl 8)
 (thenS (rExpr (rAppend (getSl 5) (rAc (getSl 8) rA0)))
 (thenS (rIf (rT (rO gGt (rO gAdd (getSl 4) (rO gIx (getSl 1) (getSl 8))) (getSl 6)))
 (rPar 6 7 (rAc (rO gAdd (getSl 4) (rO gIx (getSl 1) (getSl 8))) (rAc (rC gTuple (rAc (rC gSorted (rAc (getSl 5) rA0)) rA0)) rA0)))
 (pure .nx))
 (rAug (fun i j => i + j) 4 (rO gIx (rO gIx (getSl 0) (getSl 8)) (rI 2))))))
 (rRet (rIfE (rT (rO gGt (getSl 6) (rO gAdd (getSl 4) (rO gIx (rO gIx (getSl 0) (getSl 2)) (rI 1))))) (getSl 7) (rC mkT rA0)))))
def f_told_some : FD := runF 9 (b_told_some)
theorem ok_told_some {fA : Addr} {fd : FuncData} {cd : Value} (D : DefAt K mg "told_some" s_told_some fA fd cd) (B : Blt mg) (C_in_turn : Callee P w K mg base "in_turn" 3 ["tasks", "peaks", "children"] 3 T cls f_in_turn) : Callee P w K mg base "told_some" 4 ["tasks", "peaks", "task", "children"] 4 T cls (f_told_some) :=
  ⟨_, _, D.ok sc_told_some fun A outer s H E G hK hT hc hr => by
    subst hK hT hc
    exact (dss_cons (ds_tupN rfl rfl (da_cons de_int (da_cons (de_lst da_nil) (da_cons (de_neg de_int) (da_cons (de_tup da_nil) da_nil)))) (dgs_cons (dg_name (pg_name (i := 4) sc_told_some.nd rfl (by first | exact Or.inl rfl | exact Or.inr rfl)) (by intro l h; cases h <;> decide)) (dgs_cons (dg_name (pg_name (i := 5) sc_told_some.nd rfl (by first | exact Or.inl rfl | exact Or.inr rfl)) (by intro l h; cases h <;> decide)) (dgs_cons (dg_name (pg_name (i := 6) sc_told_some.nd rfl (by first | exact Or.inl rfl | exact Or.inr rfl)) (by intro l h; cases h <;> decide)) (dgs_cons (dg_name (pg_name (i := 7) sc_told_some.nd rfl (by first | exact Or.inl rfl | exact Or.inr rfl)) (by intro l h; cases h <;> decide)) dgs_nil)))))
 (dss_cons (ds_for (passes_of rfl) rfl (di_seq rfl (de_callC [false, false, false] rfl C_in_turn (hr.mono (by omega)) (by rfl) (takes_of rfl rfl rfl rfl) (da_cons (de_var (pv 0)) (da_cons (de_var (pv 1)) (da_cons (de_var (pv 3)) da_nil))) (lenA_cons (lenA_cons (lenA_cons lenA_nil))))) (dg_name (pg_name (i := 8) sc_told_some.nd rfl (by first | exact Or.inl rfl | exact Or.inr rfl)) (by intro l h; cases h <;> decide))
 (dss_cons (ds_expr (de_append rfl (de_var (pv 5)) (da_cons (de_var (pv 8)) da_nil) (fun ho ha => pe_bm PySem.F.plainAttrs_list PySem.F.slot_list_append PySem.F.type_list_append mt_append ho ha)))
 (dss_cons (ds_if (dt_gt (de_add rfl (de_var (pv 4)) (de_ix rfl hr (de_var (pv 1)) (de_var (pv 8)) (fun _ _ => rfl))) (de_var (pv 6)))
 (dss_one (ds_par (ps_par (i := 6) (j := 7) rfl sc_told_some.nd rfl rfl (by decide) rfl rfl (da_cons (de_add rfl (de_var (pv 4)) (de_ix rfl hr (de_var (pv 1)) (de_var (pv 8)) (fun _ _ => rfl))) (da_cons (de_callTy call_tuple_of do_tuple (by rfl) B.b_tuple bt_tuple (da_cons (de_callB cr_sortedA do_sorted (by rfl) B.b_sorted bt_sorted (da_cons (de_var (pv 5)) da_nil)) da_nil)) da_nil)) rfl)))
 dss_nil)
 (dss_one (ds_aug (ps_aug (i := 4) sc_told_some.nd rfl (by first | exact Or.inl rfl | exact Or.inr rfl) (de_ix rfl hr (de_ix rfl hr (de_var (pv 0)) (de_var (pv 8)) (fun _ _ => rfl)) de_int (fun _ _ => rfl)) ip_add))))))
 (dss_one (ds_ret (de_ifExp (dt_gt (de_var (pv 6)) (de_add rfl (de_var (pv 4)) (de_ix rfl hr (de_ix rfl hr (de_var (pv 0)) (de_var (pv 2)) (fun _ _ => rfl)) de_int (fun _ _ => rfl)))) (de_var (pv 7)) (de_tup da_nil)))))),
    D.mg, D.kp, D.binds fun _ _ _ _ _ _ us hl => match us, hl with | [_, _, _, _], _ => rfl, D.lk⟩
/-! ### told_paper -/
abbrev s_told_paper : Stmt := topS 14
theorem sc_told_paper : FnScope ["tasks", "peaks", "below", "task"] ["tasks"] (defScope s_told_paper) := ⟨rfl, rfl, rfl, by decide +kernel, rfl, by decide +kernel, by decide +kernel⟩
def b_told_paper : M Fl :=
 (thenS (tupN 2 (rAc (rC (callD f_least_peaks [false]) (rAc (getSl 0) rA0)) (rAc (rC (callD f_children_in [false]) (rAc (getSl 0) rA0)) rA0)) (gsCons (putSl 1) (gsCons (putSl 2) gsNil)))
 (rRet (rC gTuple (rAc (lcD [3] (rGo rng1 (rAc (rC gLen (rAc (getSl 0) rA0)) rA0)) (putSl 3) (pure true) (rC mkT (rAc (rO gIx (getSl 1) (getSl 3)) (rAc (rC (callD f_told_some [false, false, false, false]) (rAc (getSl 0) (rAc (getSl 1) (rAc (getSl 3) (rAc (rO gIx (getSl 2) (getSl 3)) rA0))))) rA0)))) rA0))))
def f_told_paper : FD := runF 4 (b_told_paper)
theorem ok_told_paper {fA : Addr} {fd : FuncData} {cd : Value} (D : DefAt K mg "told_paper" s_told_paper fA fd cd) (B : Blt mg) (C_children_in : Callee P w K mg base "children_in" 1 ["tasks"] 1 T cls f_children_in) (C_least_peaks : Callee P w K mg base "least_peaks" 4 ["tasks"] 1 T cls f_least_peaks) (C_told_some : Callee P w K mg base "told_some" 4 ["tasks", "peaks", "task", "children"] 4 T cls f_told_some) : Callee P w K mg base "told_paper" 5 ["tasks"] 1 T cls (f_told_paper) :=
  ⟨_, _, D.ok sc_told_paper fun A outer s H E G hK hT hc hr => by
    subst hK hT hc
    exact (dss_cons (ds_tupN rfl rfl (da_cons (de_callC [false] rfl C_least_peaks (hr.mono (by omega)) (by rfl) (takes_of rfl rfl rfl rfl) (da_cons (de_var (pv 0)) da_nil) (lenA_cons lenA_nil)) (da_cons (de_callC [false] rfl C_children_in (hr.mono (by omega)) (by rfl) (takes_of rfl rfl rfl rfl) (da_cons (de_var (pv 0)) da_nil) (lenA_cons lenA_nil)) da_nil)) (dgs_cons (dg_name (pg_name (i := 1) sc_told_paper.nd rfl (by first | exact Or.inl rfl | exact Or.inr rfl)) (by intro l h; cases h <;> decide)) (dgs_cons (dg_name (pg_name (i := 2) sc_told_paper.nd rfl (by first | exact Or.inl rfl | exact Or.inr rfl)) (by intro l h; cases h <;> decide)) dgs_nil)))
 (dss_one (ds_ret (de_callTy call_tuple_of do_tuple (by rfl) B.b_tuple bt_tuple (da_cons (de_lc (own := [("task", 3)]) rfl sc_told_paper.nd (di_range1 (by rfl) B.b_range (da_cons (de_callB (CallR.or call_len_seq (CallR.or call_lenD call_len_str)) do_len (by rfl) B.b_len bt_len (da_cons (de_var (pv 0)) da_nil)) da_nil)) (blkOk_by (by rfl)) (fun _ _ _ _ _ => (dg_name (pg_name (i := 3) sc_told_paper.nd rfl (by first | exact Or.inl rfl | exact Or.inr rfl)) (by intro l h; cases h <;> decide))) (fun _ _ _ _ _ => dts_nil) (fun _ _ _ _ _ => (de_tup (da_cons (de_ix rfl hr (de_var (pv 1)) (de_var (pv 3)) (fun _ _ => rfl)) (da_cons (de_callC [false, false, false, false] rfl C_told_some (hr.mono (by omega)) (by rfl) LamX.takes0 (da_cons (de_var (pv 0)) (da_cons (de_var (pv 1)) (da_cons (de_var (pv 3)) (da_cons (de_ix rfl hr (de_var (pv 2)) (de_var (pv 3)) (fun _ _ => rfl)) da_nil)))) (lenA_cons (lenA_cons (lenA_cons (lenA_cons lenA_nil))))) da_nil))))) da_nil))))),
    D.mg, D.kp, D.binds fun _ _ _ _ _ _ us hl => match us, hl with | [_], _ => rfl, D.lk⟩
end
end Den
namespace Den
open PySem PySem.Spec PyProof.Rows L2
section
variable {P : Program} {w : World} {K : PySem.W.Frag} {mg : Str → Option Value} {base : Heap} {T : List (Addr × Option Str)} {cls : String → Option Value}
/-! ### is_shown -/
abbrev s_is_shown : Stmt := topS 15
theorem sc_is_shown : FnScope ["tasks", "below", "bounds", "task", "some", "child"] ["tasks", "below", "bounds", "task", "some"] (defScope s_is_shown) := ⟨rfl, rfl, rfl, by decide +kernel, rfl, by decide +kernel, by decide +kernel⟩
def b_is_shown : M Fl :=
 (thenS (rIf (rT (rO gEq (rC gLen (rAc (getSl 4) rA0)) (rI 0)))
 (rRet (rO gLe (rO gIx (getSl 2) (getSl 3)) (rO gAdd (rC gSum (rAc (lcD [5] (rItems (rO gIx (getSl 1) (getSl 3))) (putSl 5) (pure true) (rO gIx (rO gIx (getSl 0) (getSl 5)) (rI 2))) rA0)) (rO gIx (rO gIx (getSl 0) (getSl 3)) (rI 1)))))
 (pure .nx))
 (rRet (rO gLe (rO gIx (getSl 2) (getSl 3)) (rC (callD f_last_bound [false, false, false]) (rAc (getSl 0) (rAc (getSl 2) (rAc (getSl 4) rA0)))))))
def f_is_shown : FD := runF 6 (b_is_shown)
theorem ok_is_shown {fA : Addr} {fd : FuncData} {cd : Value} (D : DefAt K mg "is_shown" s_is_shown fA fd cd) (B : Blt mg) (C_last_bound : Callee P w K mg base "last_bound" 1 ["tasks", "bounds", "some"] 3 T cls f_last_bound) : Callee P w K mg base "is_shown" 2 ["tasks", "below", "bounds", "task", "some"] 5 T cls (f_is_shown) :=
  ⟨_, _, D.ok sc_is_shown fun A outer s H E G hK hT hc hr => by
    subst hK hT hc
    exact (dss_cons (ds_if (dt_eq rfl hr (de_callB (CallR.or call_len_seq (CallR.or call_lenD call_len_str)) do_len (by rfl) B.b_len bt_len (da_cons (de_var (pv 4)) da_nil)) de_int)
 (dss_one (ds_ret (de_le (de_ix rfl hr (de_var (pv 2)) (de_var (pv 3)) (fun _ _ => rfl)) (de_add rfl (de_callB (cr_sum rfl) do_sum (by rfl) B.b_sum bt_sum (da_cons (de_lc (own := [("child", 5)]) rfl sc_is_shown.nd (di_seq rfl (de_ix rfl hr (de_var (pv 1)) (de_var (pv 3)) (fun _ _ => rfl))) (blkOk_by (by rfl)) (fun _ _ _ _ _ => (dg_name (pg_name (i := 5) sc_is_shown.nd rfl (by first | exact Or.inl rfl | exact Or.inr rfl)) (by intro l h; cases h <;> decide))) (fun _ _ _ _ _ => dts_nil) (fun _ _ _ _ _ => (de_ix rfl hr (de_ix rfl hr (de_var (pv 0)) (de_var (pv 5)) (fun _ _ => rfl)) de_int (fun _ _ => rfl)))) da_nil)) (de_ix rfl hr (de_ix rfl hr (de_var (pv 0)) (de_var (pv 3)) (fun _ _ => rfl)) de_int (fun _ _ => rfl))))))
 dss_nil)
 (dss_one (ds_ret (de_le (de_ix rfl hr (de_var (pv 2)) (de_var (pv 3)) (fun _ _ => rfl)) (de_callC [false, false, false] rfl C_last_bound (hr.mono (by omega)) (by rfl) (takes_of rfl rfl rfl rfl) (da_cons (de_var (pv 0)) (da_cons (de_var (pv 2)) (da_cons (de_var (pv 4)) da_nil))) (lenA_cons (lenA_cons (lenA_cons lenA_nil)))))))),
    D.mg, D.kp, D.binds fun _ _ _ _ _ _ us hl => match us, hl with | [_, _, _, _, _], _ => rfl, D.lk⟩
/-! ### are_some -/
abbrev s_are_some : Stmt := topS 16
theorem sc_are_some : FnScope ["children", "value", "one", "at"] ["children", "value"] (defScope s_are_some) := ⟨rfl, rfl, rfl, by decide +kernel, rfl, by decide +kernel, by decide +kernel⟩
def b_are_some : M Fl :=
 (thenS (rIf (orT (rNotT (rT (rIsi "tuple" (getSl 1)))) (rNotT (rT (gxD true [2] (rItems (getSl 1)) (putSl 2) (andD (rC (callD f_is_number [false, false, false]) (rAc (getSl 2) (rAc (rI 0) (rAc (rI (60)) rA0)))) (rO (gIn false) (getSl 2) (getSl 0)))))))
 (rRet (rB false))
 (pure .nx))
 (rRet (gxD true [3] (rGo rng2 (rAc (rI 1) (rAc (rC gLen (rAc (getSl 1) rA0)) rA0))) (putSl 3) (rO gLt (rO gIx (getSl 1) (rO gSub (getSl 3) (rI 1))) (rO gIx (getSl 1) (getSl 3))))))
def f_are_some : FD := runF 4 (b_are_some)
theorem ok_are_some {fA : Addr} {fd : FuncData} {cc Pt : Addr} (D : DefAt K mg "are_some" s_are_some fA fd (.ref cc)) (B : Blt mg) (C : Cst mg) (C_is_number : Callee P w K mg base "is_number" 1 ["value", "least", "most"] 3 T cls f_is_number) (TB : LamX.TabB base mg cc Pt) (hP : (Pt, none) ∈ T) (hU : ∀ Q ∈ T, Q.1 = Pt → Q = (Pt, none)) : Callee P w K mg base "are_some" 3 ["children", "value"] 2 T cls (f_are_some) :=
  ⟨_, _, D.ok sc_are_some fun A outer s H E G hK hT hc hr => by
    subst hK hT hc
    exact (dss_cons (ds_if (PW.pt (dw_or (dt_not (dt_val (de_isi (T := "tuple") (by rfl) B.b_isinstance bt_isinstance (by rfl) B.b_tuple bt_tuple (by decide +kernel) (de_var (pv 1)) rfl))) (pw_or1 (dt_not (dt_val (de_all (own := [("one", 2)]) hr rfl (by rfl) B.b_all (gxTab TB) hP hU rfl sc_are_some.nd ⟨blkOk_by (by rfl), rfl, by decide +kernel, rfl⟩ (di_seq rfl (de_var (pv 1))) (fun _ _ _ _ _ _ _ => (dg_name (pg_name (i := 2) sc_are_some.nd rfl (by first | exact Or.inl rfl | exact Or.inr rfl)) (by intro l h; cases h <;> decide))) (fun _ _ _ _ _ _ _ => (de_and (de_callC [false, false, false] rfl C_is_number ((room_gx hr).mono (by omega)) (by rfl) LamX.takes0 (da_cons (de_var (pv 2)) (da_cons de_int (da_cons (de_gintE (by rfl) C.c_MOST_TASKS) da_nil))) (lenA_cons (lenA_cons (lenA_cons lenA_nil)))) (de_one (de_in rfl (by rfl) (de_var (pv 2)) (de_var (pv 0))))))))))))
 (dss_one (ds_ret de_bl))
 dss_nil)
 (dss_one (ds_ret (de_all (own := [("at", 3)]) hr rfl (by rfl) B.b_all (gxTab TB) hP hU rfl sc_are_some.nd ⟨blkOk_by (by rfl), rfl, by decide +kernel, rfl⟩ (di_range2 (by rfl) B.b_range (da_cons de_int (da_cons (de_callB (CallR.or call_len_seq (CallR.or call_lenD call_len_str)) do_len (by rfl) B.b_len bt_len (da_cons (de_var (pv 1)) da_nil)) da_nil))) (fun _ _ _ _ _ _ _ => (dg_name (pg_name (i := 3) sc_are_some.nd rfl (by first | exact Or.inl rfl | exact Or.inr rfl)) (by intro l h; cases h <;> decide))) (fun _ _ _ _ _ _ _ => (de_lt (de_ix rfl (room_gx hr) (de_var (pv 1)) (de_sub (de_var (pv 3)) de_int) (fun _ _ => rfl)) (de_ix rfl (room_gx hr) (de_var (pv 1)) (de_var (pv 3)) (fun _ _ => rfl)))))))),
    D.mg, D.kp, D.binds fun _ _ _ _ _ _ us hl => match us, hl with | [_, _], _ => rfl, D.lk⟩
end
end Den
namespace Den
open PySem PySem.Spec PyProof.Rows L2
section
variable {P : Program} {w : World} {K : PySem.W.Frag} {mg : Str → Option Value} {base : Heap} {T : List (Addr × Option Str)} {cls : String → Option Value}
/-! ### is_paper -/
abbrev s_is_paper : Stmt := topS 17
theorem sc_is_paper : FnScope ["tasks", "value", "below", "task", "row", "bounds"] ["tasks", "value"] (defScope s_is_paper) := ⟨rfl, rfl, rfl, by decide +kernel, rfl, by decide +kernel, by decide +kernel⟩
def b_is_paper : M Fl :=
 (thenS (rIf (orT (rNotT (rT (rIsi "tuple" (getSl 1)))) (rT (rO gNe (rC gLen (rAc (getSl 1) rA0)) (rC gLen (rAc (getSl 0) rA0)))))
 (rRet (rB false))
 (pure .nx))
 (thenS (setF 2 (rC (callD f_children_in [false]) (rAc (getSl 0) rA0)))
 (thenS (rFor (rGo enumOf (rAc (getSl 1) rA0)) (unT 2 (gsCons (putSl 3) (gsCons (putSl 4) gsNil)))
 (thenS (rIf (orT (rNotT (rT (rIsi "tuple" (getSl 4)))) (orT (rT (rO gNe (rC gLen (rAc (getSl 4) rA0)) (rI 2))) (rNotT (rT (rC (callD f_is_number [false, false, false]) (rAc (rO gIx (getSl 4) (rI 0)) (rAc (rI 0) (rAc (rI (61000000)) rA0))))))))
 (rRet (rB false))
 (pure .nx))
 (rIf (rNotT (rT (rC (callD f_are_some [false, false]) (rAc (rO gIx (getSl 2) (getSl 3)) (rAc (rO gIx (getSl 4) (rI 1)) rA0)))))
 (rRet (rB false))
 (pure .nx))))
 (thenS (setF 5 (lcD [4] (rItems (getSl 1)) (putSl 4) (pure true) (rO gIx (getSl 4) (rI 0))))
 (rRet (gxD true [3, 4] (rGo enumOf (rAc (getSl 1) rA0)) (unT 2 (gsCons (putSl 3) (gsCons (putSl 4) gsNil))) (rC (callD f_is_shown [false, false, false, false, false]) (rAc (getSl 0) (rAc (getSl 2) (rAc (getSl 5) (rAc (getSl 3) (rAc (rO gIx (getSl 4) (rI 1)) rA0))))))))))))
def f_is_paper : FD := runF 6 (b_is_paper)
theorem ok_is_paper {fA : Addr} {fd : FuncData} {cc Pt : Addr} (D : DefAt K mg "is_paper" s_is_paper fA fd (.ref cc)) (B : Blt mg) (C : Cst mg) (C_children_in : Callee P w K mg base "children_in" 1 ["tasks"] 1 T cls f_children_in) (C_is_number : Callee P w K mg base "is_number" 1 ["value", "least", "most"] 3 T cls f_is_number) (C_are_some : Callee P w K mg base "are_some" 3 ["children", "value"] 2 T cls f_are_some) (C_is_shown : Callee P w K mg base "is_shown" 2 ["tasks", "below", "bounds", "task", "some"] 5 T cls f_is_shown) (TB : LamX.TabB base mg cc Pt) (hP : (Pt, none) ∈ T) (hU : ∀ Q ∈ T, Q.1 = Pt → Q = (Pt, none)) : Callee P w K mg base "is_paper" 4 ["tasks", "value"] 2 T cls (f_is_paper) :=
  ⟨_, _, D.ok sc_is_paper fun A outer s H E G hK hT hc hr => by
    subst hK hT hc
    exact (dss_cons (ds_if (PW.pt (dw_or (dt_not (dt_val (de_isi (T := "tuple") (by rfl) B.b_isinstance bt_isinstance (by rfl) B.b_tuple bt_tuple (by decide +kernel) (de_var (pv 1)) rfl))) (pw_or1 (dt_ne rfl hr (de_callB (CallR.or call_len_seq (CallR.or call_lenD call_len_str)) do_len (by rfl) B.b_len bt_len (da_cons (de_var (pv 1)) da_nil)) (de_callB (CallR.or call_len_seq (CallR.or call_lenD call_len_str)) do_len (by rfl) B.b_len bt_len (da_cons (de_var (pv 0)) da_nil))))))
 (dss_one (ds_ret de_bl))
 dss_nil)
 (dss_cons (ds_setF (ps_set (i := 2) sc_is_paper.nd rfl (by first | exact Or.inl rfl | exact Or.inr rfl) (de_callC [false] rfl C_children_in (hr.mono (by omega)) (by rfl) (takes_of rfl rfl rfl rfl) (da_cons (de_var (pv 0)) da_nil) (lenA_cons lenA_nil))))
 (dss_cons (ds_for (passes_of rfl) rfl (di_enum rfl (by rfl) B.b_enumerate (da_cons (de_var (pv 1)) da_nil)) (dg_tup rfl rfl (dgs_cons (dg_name (pg_name (i := 3) sc_is_paper.nd rfl (by first | exact Or.inl rfl | exact Or.inr rfl)) (by intro l h; cases h <;> decide)) (dgs_cons (dg_name (pg_name (i := 4) sc_is_paper.nd rfl (by first | exact Or.inl rfl | exact Or.inr rfl)) (by intro l h; cases h <;> decide)) dgs_nil)))
 (dss_cons (ds_if (PW.pt (dw_or (dt_not (dt_val (de_isi (T := "tuple") (by rfl) B.b_isinstance bt_isinstance (by rfl) B.b_tuple bt_tuple (by decide +kernel) (de_var (pv 4)) rfl))) (dw_or (dt_ne rfl hr (de_callB (CallR.or call_len_seq (CallR.or call_lenD call_len_str)) do_len (by rfl) B.b_len bt_len (da_cons (de_var (pv 4)) da_nil)) de_int) (pw_or1 (dt_not (dt_val (de_callC [false, false, false] rfl C_is_number (hr.mono (by omega)) (by rfl) (takes_of rfl rfl rfl rfl) (da_cons (de_ix rfl hr (de_var (pv 4)) de_int (fun _ _ => rfl)) (da_cons de_int (da_cons (de_gintE (by rfl) C.c_MOST_BOUND) da_nil))) (lenA_cons (lenA_cons (lenA_cons lenA_nil))))))))))
 (dss_one (ds_ret de_bl))
 dss_nil)
 (dss_one (ds_if (dt_not (dt_val (de_callC [false, false] rfl C_are_some (hr.mono (by omega)) (by rfl) (takes_of rfl rfl rfl rfl) (da_cons (de_ix rfl hr (de_var (pv 2)) (de_var (pv 3)) (fun _ _ => rfl)) (da_cons (de_ix rfl hr (de_var (pv 4)) de_int (fun _ _ => rfl)) da_nil)) (lenA_cons (lenA_cons lenA_nil)))))
 (dss_one (ds_ret de_bl))
 dss_nil))))
 (dss_cons (ds_setF (ps_set (i := 5) sc_is_paper.nd rfl (by first | exact Or.inl rfl | exact Or.inr rfl) (de_lc (own := [("row", 4)]) rfl sc_is_paper.nd (di_seq rfl (de_var (pv 1))) (blkOk_by (by rfl)) (fun _ _ _ _ _ => (dg_name (pg_name (i := 4) sc_is_paper.nd rfl (by first | exact Or.inl rfl | exact Or.inr rfl)) (by intro l h; cases h <;> decide))) (fun _ _ _ _ _ => dts_nil) (fun _ _ _ _ _ => (de_ix rfl hr (de_var (pv 4)) de_int (fun _ _ => rfl))))))
 (dss_one (ds_ret (de_all (own := [("task", 3), ("row", 4)]) hr rfl (by rfl) B.b_all (gxTab TB) hP hU rfl sc_is_paper.nd ⟨blkOk_by (by rfl), rfl, by decide +kernel, rfl⟩ (di_enum rfl (by rfl) B.b_enumerate (da_cons (de_var (pv 1)) da_nil)) (fun _ _ _ _ _ _ _ => (dg_tup rfl rfl (dgs_cons (dg_name (pg_name (i := 3) sc_is_paper.nd rfl (by first | exact Or.inl rfl | exact Or.inr rfl)) (by intro l h; cases h <;> decide)) (dgs_cons (dg_name (pg_name (i := 4) sc_is_paper.nd rfl (by first | exact Or.inl rfl | exact Or.inr rfl)) (by intro l h; cases h <;> decide)) dgs_nil)))) (fun _ _ _ _ _ _ _ => (de_callC [false, false, false, false, false] rfl C_is_shown ((room_gx hr).mono (by omega)) (by rfl) LamX.takes0 (da_cons (de_var (pv 0)) (da_cons (de_var (pv 2)) (da_cons (de_var (pv 5)) (da_cons (de_var (pv 3)) (da_cons (de_ix rfl (room_gx hr) (de_var (pv 4)) de_int (fun _ _ => rfl)) da_nil))))) (lenA_cons (lenA_cons (lenA_cons (lenA_cons (lenA_cons lenA_nil)))))))))))))),
    D.mg, D.kp, D.binds fun _ _ _ _ _ _ us hl => match us, hl with | [_, _], _ => rfl, D.lk⟩
/-! ### proves_least -/
abbrev s_proves_least : Stmt := topS 18
theorem sc_proves_least : FnScope ["tasks", "peak", "value", "top"] ["tasks", "peak", "value"] (defScope s_proves_least) := ⟨rfl, rfl, rfl, by decide +kernel, rfl, by decide +kernel, by decide +kernel⟩
def b_proves_least : M Fl :=
 (rRet (andD (rC (callD f_is_paper [false, false]) (rAc (getSl 0) (rAc (getSl 2) rA0))) (rO gEq (rMaxD (rAc (lcD [3] (rItems (rC (callD f_tops_in [false]) (rAc (getSl 0) rA0))) (putSl 3) (pure true) (rO gIx (rO gIx (getSl 2) (getSl 3)) (rI 0))) rA0) (rI 0)) (getSl 1))))
def f_proves_least : FD := runF 4 (b_proves_least)
theorem ok_proves_least {fA : Addr} {fd : FuncData} {cd : Value} (D : DefAt K mg "proves_least" s_proves_least fA fd cd) (B : Blt mg) (C_is_paper : Callee P w K mg base "is_paper" 4 ["tasks", "value"] 2 T cls f_is_paper) (C_tops_in : Callee P w K mg base "tops_in" 1 ["tasks"] 1 T cls f_tops_in) : Callee P w K mg base "proves_least" 5 ["tasks", "peak", "value"] 3 T cls (f_proves_least) :=
  ⟨_, _, D.ok sc_proves_least fun A outer s H E G hK hT hc hr => by
    subst hK hT hc
    exact (dss_one (ds_ret (de_and (de_callC [false, false] rfl C_is_paper (hr.mono (by omega)) (by rfl) (takes_of rfl rfl rfl rfl) (da_cons (de_var (pv 0)) (da_cons (de_var (pv 2)) da_nil)) (lenA_cons (lenA_cons lenA_nil))) (de_one (de_eq rfl hr (de_maxDef rfl rfl (by rfl) B.b_max bt_max (da_cons (de_lc (own := [("top", 3)]) rfl sc_proves_least.nd (di_seq rfl (de_callC [false] rfl C_tops_in (hr.mono (by omega)) (by rfl) (takes_of rfl rfl rfl rfl) (da_cons (de_var (pv 0)) da_nil) (lenA_cons lenA_nil))) (blkOk_by (by rfl)) (fun _ _ _ _ _ => (dg_name (pg_name (i := 3) sc_proves_least.nd rfl (by first | exact Or.inl rfl | exact Or.inr rfl)) (by intro l h; cases h <;> decide))) (fun _ _ _ _ _ => dts_nil) (fun _ _ _ _ _ => (de_ix rfl hr (de_ix rfl hr (de_var (pv 2)) (de_var (pv 3)) (fun _ _ => rfl)) de_int (fun _ _ => rfl)))) da_nil) de_int) (de_var (pv 1))))))),
    D.mg, D.kp, D.binds fun _ _ _ _ _ _ us hl => match us, hl with | [_, _, _], _ => rfl, D.lk⟩
end
end Den
namespace Den
open PySem PySem.Spec PyProof.Rows L2
section
variable {P : Program} {w : World} {K : PySem.W.Frag} {mg : Str → Option Value} {base : Heap} {T : List (Addr × Option Str)} {cls : String → Option Value}
/-! ### _law_draws -/
abbrev s_u_law_draws : Stmt := topS 20
theorem sc_u_law_draws : FnScope ["script", "draws", "piece", "number", "first", "k", "seed"] ["script"] (defScope s_u_law_draws) := ⟨rfl, rfl, rfl, by decide +kernel, rfl, by decide +kernel, by decide +kernel⟩
def b_u_law_draws : M Fl :=
 (thenS (rAsg (rC mkL rA0) (putSl 1))
 (thenS (rFor (rItems (getSl 0)) (putSl 2)
 (thenS (rAsg (rC gAbs (rAc (getSl 2) rA0)) (putSl 3))
 (thenS (rIf (rT (rO gLt (getSl 3) (rO gPow (rI 10) (rI 18))))
 (thenS (rAsg (rO gMod (rC gInt (rAc (rO gAdd (rO gMul (getSl 3) (rI 48271)) (rI 11)) rA0)) (rI 2147483647)) (putSl 4))
 (thenS (rExpr (rAppend (getSl 1) (rAc (rO gMod (rC gInt (rAc (rO gAdd (rO gMul (getSl 4) (rI 69621)) (getSl 3)) rA0)) (rI 2147483629)) rA0)))
 (thenS (rExpr (rAppend (getSl 1) (rAc (rO gMod (rC gInt (rAc (rO gAdd (getSl 4) (rO gFdiv (getSl 3) (rI 7))) rA0)) (rI 1000003)) rA0)))
 (rAsg (rI 0) (putSl 3)))))
 (pure .nx))
 (rFor (rGo rng1 (rAc (rI 60) rA0)) (putSl 5)
 (rIf (rT (rO gGt (getSl 3) (rI 0)))
 (thenS (rExpr (rAppend (getSl 1) (rAc (rO gMod (rC gInt (rAc (getSl 3) rA0)) (rI 997)) rA0)))
 (rAsg (rO gFdiv (getSl 3) (rI 997)) (putSl 3)))
 (pure .nx))))))
 (thenS (rAsg (rI 1) (putSl 6))
 (thenS (rIf (rT (rO gGt (rC gLen (rAc (getSl 0) rA0)) (rI 0)))
 (rAsg (rO gAdd (rI 1) (rC gAbs (rAc (rO gIx (getSl 0) (rI 0)) rA0))) (putSl 6))
 (pure .nx))
 (thenS (rFor (rGo rng1 (rAc (rI 900) rA0)) (putSl 5)
 (thenS (rAsg (rO gMod (rC gInt (rAc (rO gAdd (rO gMul (getSl 6) (rI 48271)) (rI 69621)) rA0)) (rI 2147483647)) (putSl 6))
 (rExpr (rAppend (getSl 1) (rAc (rO gFdiv (getSl 6) (rI 5)) rA0)))))
 (rRet (rRev (getSl 1))))))))
def f_u_law_draws : FD := runF 7 (b_u_law_draws)
theorem ok_u_law_draws {fA : Addr} {fd : FuncData} {cd : Value} (D : DefAt K mg "_law_draws" s_u_law_draws fA fd cd) (B : Blt mg) : Callee P w K mg base "_law_draws" 1 ["script"] 1 T cls (f_u_law_draws) :=
  ⟨_, _, D.ok sc_u_law_draws fun A outer s H E G hK hT hc hr => by
    subst hK hT hc
    exact (dss_cons (ds_set (ps_set (i := 1) sc_u_law_draws.nd rfl (by first | exact Or.inl rfl | exact Or.inr rfl) (de_lst da_nil)))
 (dss_cons (ds_for (passes_of rfl) rfl (di_seq rfl (de_var (pv 0))) (dg_name (pg_name (i := 2) sc_u_law_draws.nd rfl (by first | exact Or.inl rfl | exact Or.inr rfl)) (by intro l h; cases h <;> decide))
 (dss_cons (ds_set (ps_set (i := 3) sc_u_law_draws.nd rfl (by first | exact Or.inl rfl | exact Or.inr rfl) (de_callB call_abs do_abs (by rfl) B.b_abs bt_abs (da_cons (de_var (pv 2)) da_nil))))
 (dss_cons (ds_if (dt_lt (de_var (pv 3)) (de_pow de_int de_int))
 (dss_cons (ds_set (ps_set (i := 4) sc_u_law_draws.nd rfl (by first | exact Or.inl rfl | exact Or.inr rfl) (de_mod (de_callTy call_int1 do_int (by rfl) B.b_int bt_int (da_cons (de_add rfl (de_mul (de_var (pv 3)) de_int) de_int) da_nil)) de_int)))
 (dss_cons (ds_expr (de_append rfl (de_var (pv 1)) (da_cons (de_mod (de_callTy call_int1 do_int (by rfl) B.b_int bt_int (da_cons (de_add rfl (de_mul (de_var (pv 4)) de_int) (de_var (pv 3))) da_nil)) de_int) da_nil) (fun ho ha => pe_bm PySem.F.plainAttrs_list PySem.F.slot_list_append PySem.F.type_list_append mt_append ho ha)))
 (dss_cons (ds_expr (de_append rfl (de_var (pv 1)) (da_cons (de_mod (de_callTy call_int1 do_int (by rfl) B.b_int bt_int (da_cons (de_add rfl (de_var (pv 4)) (de_fdiv (de_var (pv 3)) de_int)) da_nil)) de_int) da_nil) (fun ho ha => pe_bm PySem.F.plainAttrs_list PySem.F.slot_list_append PySem.F.type_list_append mt_append ho ha)))
 (dss_one (ds_set (ps_set (i := 3) sc_u_law_draws.nd rfl (by first | exact Or.inl rfl | exact Or.inr rfl) de_int))))))
 dss_nil)
 (dss_one (ds_for (passes_of rfl) rfl (di_range1 (by rfl) B.b_range (da_cons de_int da_nil)) (dg_name (pg_name (i := 5) sc_u_law_draws.nd rfl (by first | exact Or.inl rfl | exact Or.inr rfl)) (by intro l h; cases h <;> decide))
 (dss_one (ds_if (dt_gt (de_var (pv 3)) de_int)
 (dss_cons (ds_expr (de_append rfl (de_var (pv 1)) (da_cons (de_mod (de_callTy call_int1 do_int (by rfl) B.b_int bt_int (da_cons (de_var (pv 3)) da_nil)) de_int) da_nil) (fun ho ha => pe_bm PySem.F.plainAttrs_list PySem.F.slot_list_append PySem.F.type_list_append mt_append ho ha)))
 (dss_one (ds_set (ps_set (i := 3) sc_u_law_draws.nd rfl (by first | exact Or.inl rfl | exact Or.inr rfl) (de_fdiv (de_var (pv 3)) de_int)))))
 dss_nil)))))))
 (dss_cons (ds_set (ps_set (i := 6) sc_u_law_draws.nd rfl (by first | exact Or.inl rfl | exact Or.inr rfl) de_int))
 (dss_cons (ds_if (dt_gt (de_callB (CallR.or call_len_seq (CallR.or call_lenD call_len_str)) do_len (by rfl) B.b_len bt_len (da_cons (de_var (pv 0)) da_nil)) de_int)
 (dss_one (ds_set (ps_set (i := 6) sc_u_law_draws.nd rfl (by first | exact Or.inl rfl | exact Or.inr rfl) (de_add rfl de_int (de_callB call_abs do_abs (by rfl) B.b_abs bt_abs (da_cons (de_ix rfl hr (de_var (pv 0)) de_int (fun _ _ => rfl)) da_nil))))))
 dss_nil)
 (dss_cons (ds_for (passes_of rfl) rfl (di_range1 (by rfl) B.b_range (da_cons de_int da_nil)) (dg_name (pg_name (i := 5) sc_u_law_draws.nd rfl (by first | exact Or.inl rfl | exact Or.inr rfl)) (by intro l h; cases h <;> decide))
 (dss_cons (ds_set (ps_set (i := 6) sc_u_law_draws.nd rfl (by first | exact Or.inl rfl | exact Or.inr rfl) (de_mod (de_callTy call_int1 do_int (by rfl) B.b_int bt_int (da_cons (de_add rfl (de_mul (de_var (pv 6)) de_int) de_int) da_nil)) de_int)))
 (dss_one (ds_expr (de_append rfl (de_var (pv 1)) (da_cons (de_fdiv (de_var (pv 6)) de_int) da_nil) (fun ho ha => pe_bm PySem.F.plainAttrs_list PySem.F.slot_list_append PySem.F.type_list_append mt_append ho ha))))))
 (dss_one (ds_ret (de_lstRev rfl rfl (by rfl) B.b_list (by rfl) B.b_reversed (de_var (pv 1)))))))))),
    D.mg, D.kp, D.binds fun _ _ _ _ _ _ us hl => match us, hl with | [_], _ => rfl, D.lk⟩
/-! ### _law_take -/
abbrev s_u_law_take : Stmt := topS 21
theorem sc_u_law_take : FnScope ["draws", "bound"] ["draws", "bound"] (defScope s_u_law_take) := ⟨rfl, rfl, rfl, by decide +kernel, rfl, by decide +kernel, by decide +kernel⟩
def b_u_law_take : M Fl :=
 (thenS (rIf (rT (rO gEq (rC gLen (rAc (getSl 0) rA0)) (rI 0)))
 (rRet (rI 0))
 (pure .nx))
 (rRet (rO gMod (rC gInt (rAc (rPop (getSl 0)) rA0)) (getSl 1))))
def f_u_law_take : FD := runF 2 (b_u_law_take)
theorem ok_u_law_take {fA : Addr} {fd : FuncData} {cd : Value} (D : DefAt K mg "_law_take" s_u_law_take fA fd cd) (B : Blt mg) : Callee P w K mg base "_law_take" 1 ["draws", "bound"] 2 T cls (f_u_law_take) :=
  ⟨_, _, D.ok sc_u_law_take fun A outer s H E G hK hT hc hr => by
    subst hK hT hc
    exact (dss_cons (ds_if (dt_eq rfl hr (de_callB (CallR.or call_len_seq (CallR.or call_lenD call_len_str)) do_len (by rfl) B.b_len bt_len (da_cons (de_var (pv 0)) da_nil)) de_int)
 (dss_one (ds_ret de_int))
 dss_nil)
 (dss_one (ds_ret (de_mod (de_callTy call_int1 do_int (by rfl) B.b_int bt_int (da_cons (de_pop rfl (de_var (pv 0)) (fun ho => pe_bm0 PySem.F.plainAttrs_list PySem.F.slot_list_pop PySem.F.type_list_pop mt_pop ho)) da_nil)) (de_var (pv 1)))))),
    D.mg, D.kp, D.binds fun _ _ _ _ _ _ us hl => match us, hl with | [_, _], _ => rfl, D.lk⟩
end
end Den
namespace Den
open PySem PySem.Spec PyProof.Rows L2
section
variable {P : Program} {w : World} {K : PySem.W.Frag} {mg : Str → Option Value} {base : Heap} {T : List (Addr × Option Str)} {cls : String → Option Value}
/-! ### _law_alike -/
abbrev s_u_law_alike : Stmt := topS 22
theorem sc_u_law_alike : FnScope ["found", "due", "k"] ["found", "due"] (defScope s_u_law_alike) := ⟨rfl, rfl, rfl, by decide +kernel, rfl, by decide +kernel, by decide +kernel⟩
def b_u_law_alike (rec : FD) : M Fl :=
 (thenS (rIf (orT (rT (rIsi "list" (getSl 1))) (rT (rIsi "tuple" (getSl 1))))
 (thenS (rIf (orT (rT (rO gNe (rIsi "list" (getSl 0)) (rIsi "list" (getSl 1)))) (rT (rO gNe (rIsi "tuple" (getSl 0)) (rIsi "tuple" (getSl 1)))))
 (rRet (rB false))
 (pure .nx))
 (rRet (andD (rO gEq (rC gLen (rAc (getSl 0) rA0)) (rC gLen (rAc (getSl 1) rA0))) (rO gEq (lcD [2] (rGo rng1 (rAc (rC gLen (rAc (getSl 1) rA0)) rA0)) (putSl 2) (rNotT (rT (rC (callD rec [false, false]) (rAc (rO gIx (getSl 0) (getSl 2)) (rAc (rO gIx (getSl 1) (getSl 2)) rA0))))) (getSl 2)) (rC mkL rA0)))))
 (pure .nx))
 (thenS (rIf (rT (rO (gIsN false) (getSl 1) rN))
 (rRet (rO (gIsN false) (getSl 0) rN))
 (pure .nx))
 (thenS (rIf (orT (rT (rIsi "bool" (getSl 1))) (rT (rIsi "bool" (getSl 0))))
 (rRet (andD (rIsi "bool" (getSl 0)) (andD (rIsi "bool" (getSl 1)) (rO gEq (getSl 0) (getSl 1)))))
 (pure .nx))
 (thenS (rIf (rT (rIsi "int" (getSl 1)))
 (rRet (andD (rIsi "int" (getSl 0)) (rO gEq (getSl 0) (getSl 1))))
 (pure .nx))
 (rRet (andD (rIsi "str" (getSl 0)) (rO gEq (getSl 0) (getSl 1))))))))
def f_u_law_alike (rec : FD) : FD := runF 3 (b_u_law_alike rec)
theorem ok_u_law_alike {j : Nat} {fA : Addr} {fd : FuncData} {cd : Value} (D : DefAt K mg "_law_alike" s_u_law_alike fA fd cd) (B : Blt mg) {rec : FD} (C_u_law_alike : Callee P w K mg base "_law_alike" (j + 1) ["found", "due"] 2 T cls rec) : Callee P w K mg base "_law_alike" (j + 1 + 1) ["found", "due"] 2 T cls (f_u_law_alike rec) :=
  ⟨_, _, D.ok sc_u_law_alike fun A outer s H E G hK hT hc hr => by
    subst hK hT hc
    exact (dss_cons (ds_if (PW.pt (dw_or (dt_val (de_isi (T := "list") (by rfl) B.b_isinstance bt_isinstance (by rfl) B.b_list bt_list (by decide +kernel) (de_var (pv 1)) rfl)) (pw_or1 (dt_val (de_isi (T := "tuple") (by rfl) B.b_isinstance bt_isinstance (by rfl) B.b_tuple bt_tuple (by decide +kernel) (de_var (pv 1)) rfl)))))
 (dss_cons (ds_if (PW.pt (dw_or (dt_ne rfl hr (de_isi (T := "list") (by rfl) B.b_isinstance bt_isinstance (by rfl) B.b_list bt_list (by decide +kernel) (de_var (pv 0)) rfl) (de_isi (T := "list") (by rfl) B.b_isinstance bt_isinstance (by rfl) B.b_list bt_list (by decide +kernel) (de_var (pv 1)) rfl)) (pw_or1 (dt_ne rfl hr (de_isi (T := "tuple") (by rfl) B.b_isinstance bt_isinstance (by rfl) B.b_tuple bt_tuple (by decide +kernel) (de_var (pv 0)) rfl) (de_isi (T := "tuple") (by rfl) B.b_isinstance bt_isinstance (by rfl) B.b_tuple bt_tuple (by decide +kernel) (de_var (pv 1)) rfl)))))
 (dss_one (ds_ret de_bl))
 dss_nil)
 (dss_one (ds_ret (de_and (de_eq rfl hr (de_callB (CallR.or call_len_seq (CallR.or call_lenD call_len_str)) do_len (by rfl) B.b_len bt_len (da_cons (de_var (pv 0)) da_nil)) (de_callB (CallR.or call_len_seq (CallR.or call_lenD call_len_str)) do_len (by rfl) B.b_len bt_len (da_cons (de_var (pv 1)) da_nil))) (de_one (de_eq rfl hr (de_lc (own := [("k", 2)]) rfl sc_u_law_alike.nd (di_range1 (by rfl) B.b_range (da_cons (de_callB (CallR.or call_len_seq (CallR.or call_lenD call_len_str)) do_len (by rfl) B.b_len bt_len (da_cons (de_var (pv 1)) da_nil)) da_nil)) (blkOk_by (by rfl)) (fun _ _ _ _ _ => (dg_name (pg_name (i := 2) sc_u_law_alike.nd rfl (by first | exact Or.inl rfl | exact Or.inr rfl)) (by intro l h; cases h <;> decide))) (fun _ _ _ _ _ => (dts_one (dt_not (dt_val (de_callC [false, false] rfl C_u_law_alike (hr.mono (by omega)) (by rfl) LamX.takes0 (da_cons (de_ix rfl hr (de_var (pv 0)) (de_var (pv 2)) (fun _ _ => rfl)) (da_cons (de_ix rfl hr (de_var (pv 1)) (de_var (pv 2)) (fun _ _ => rfl)) da_nil)) (lenA_cons (lenA_cons lenA_nil))))))) (fun _ _ _ _ _ => (de_var (pv 2)))) (de_lst da_nil)))))))
 dss_nil)
 (dss_cons (ds_if (dt_isN (by rfl) (de_var (pv 1)) de_non)
 (dss_one (ds_ret (de_isN (by rfl) (de_var (pv 0)) de_non)))
 dss_nil)
 (dss_cons (ds_if (PW.pt (dw_or (dt_val (de_isi (T := "bool") (by rfl) B.b_isinstance bt_isinstance (by rfl) B.b_bool bt_bool (by decide +kernel) (de_var (pv 1)) rfl)) (pw_or1 (dt_val (de_isi (T := "bool") (by rfl) B.b_isinstance bt_isinstance (by rfl) B.b_bool bt_bool (by decide +kernel) (de_var (pv 0)) rfl)))))
 (dss_one (ds_ret (de_and (de_isi (T := "bool") (by rfl) B.b_isinstance bt_isinstance (by rfl) B.b_bool bt_bool (by decide +kernel) (de_var (pv 0)) rfl) (de_and (de_isi (T := "bool") (by rfl) B.b_isinstance bt_isinstance (by rfl) B.b_bool bt_bool (by decide +kernel) (de_var (pv 1)) rfl) (de_one (de_eq rfl hr (de_var (pv 0)) (de_var (pv 1))))))))
 dss_nil)
 (dss_cons (ds_if (dt_val (de_isi (T := "int") (by rfl) B.b_isinstance bt_isinstance (by rfl) B.b_int bt_int (by decide +kernel) (de_var (pv 1)) rfl))
 (dss_one (ds_ret (de_and (de_isi (T := "int") (by rfl) B.b_isinstance bt_isinstance (by rfl) B.b_int bt_int (by decide +kernel) (de_var (pv 0)) rfl) (de_one (de_eq rfl hr (de_var (pv 0)) (de_var (pv 1)))))))
 dss_nil)
 (dss_one (ds_ret (de_and (de_isi (T := "str") (by rfl) B.b_isinstance bt_isinstance (by rfl) B.b_str bt_str (by decide +kernel) (de_var (pv 0)) rfl) (de_one (de_eq rfl hr (de_var (pv 0)) (de_var (pv 1))))))))))),
    D.mg, D.kp, D.binds fun _ _ _ _ _ _ us hl => match us, hl with | [_, _], _ => rfl, D.lk⟩
def fr_u_law_alike : Nat → FD
  | 0 => fun _ => none
  | n + 1 => f_u_law_alike (fr_u_law_alike n)
theorem okr_u_law_alike {fA : Addr} {fd : FuncData} {cd : Value} (D : DefAt K mg "_law_alike" s_u_law_alike fA fd cd) (B : Blt mg) : ∀ n : Nat, Callee P w K mg base "_law_alike" (n + 1) ["found", "due"] 2 T cls (fr_u_law_alike n)
  | 0 => Callee.none D.mg D.kp (D.binds fun _ _ _ _ _ _ us hl => match us, hl with | [_, _], _ => rfl) D.lk rfl
  | n + 1 => ok_u_law_alike D B (okr_u_law_alike D B n)
end
end Den
namespace Den
open PySem PySem.Spec PyProof.Rows L2
section
variable {P : Program} {w : World} {K : PySem.W.Frag} {mg : Str → Option Value} {base : Heap} {T : List (Addr × Option Str)} {cls : String → Option Value}
/-! ### _law_tasks -/
abbrev s_u_law_tasks : Stmt := topS 23
theorem sc_u_law_tasks : FnScope ["draws", "most", "cells", "many", "found", "number", "parent", "front"] ["draws", "most", "cells"] (defScope s_u_law_tasks) := ⟨rfl, rfl, rfl, by decide +kernel, rfl, by decide +kernel, by decide +kernel⟩
def b_u_law_tasks : M Fl :=
 (thenS (rPar 3 4 (rAc (rC (callD f_u_law_take [true, false]) (rAc (getSl 0) (rAc (rO gAdd (getSl 1) (rI 1)) rA0))) (rAc (rC mkL rA0) rA0)))
 (thenS (rFor (rGo rng1 (rAc (getSl 3) rA0)) (putSl 5)
 (thenS (rAsg (rIfE (rT (rO gLt (rO gAdd (getSl 5) (rI 1)) (getSl 3))) (rO gAdd (rO gAdd (getSl 5) (rI 1)) (rC (callD f_u_law_take [true, false]) (rAc (getSl 0) (rAc (rC gMin (rAc (rI 3) (rAc (rO gSub (getSl 3) (getSl 5)) rA0))) rA0)))) (getSl 3)) (putSl 6))
 (thenS (rAsg (rO gAdd (rC (callD f_u_law_take [true, false]) (rAc (getSl 0) (rAc (getSl 2) rA0))) (rI 1)) (putSl 7))
 (rExpr (rAppend (getSl 4) (rAc (rC mkT (rAc (rIfE (andT (rT (rO gLt (getSl 6) (getSl 3))) (rT (rO gGt (rC (callD f_u_law_take [true, false]) (rAc (getSl 0) (rAc (rI 8) rA0))) (rI 0)))) (getSl 6) rN) (rAc (getSl 7) (rAc (rC (callD f_u_law_take [true, false]) (rAc (getSl 0) (rAc (rO gAdd (getSl 7) (rI 1)) rA0))) rA0)))) rA0))))))
 (rRet (rC gTuple (rAc (getSl 4) rA0)))))
def f_u_law_tasks : FD := runF 8 (b_u_law_tasks)
theorem ok_u_law_tasks {fA : Addr} {fd : FuncData} {cd : Value} (D : DefAt K mg "_law_tasks" s_u_law_tasks fA fd cd) (B : Blt mg) (C_u_law_take : Callee P w K mg base "_law_take" 1 ["draws", "bound"] 2 T cls f_u_law_take) : Callee P w K mg base "_law_tasks" 2 ["draws", "most", "cells"] 3 T cls (f_u_law_tasks) :=
  ⟨_, _, D.ok sc_u_law_tasks fun A outer s H E G hK hT hc hr => by
    subst hK hT hc
    exact (dss_cons (ds_par (ps_par (i := 3) (j := 4) rfl sc_u_law_tasks.nd rfl rfl (by decide) rfl rfl (da_cons (de_callC [true, false] rfl C_u_law_take (hr.mono (by omega)) (by rfl) (takes_of rfl rfl rfl rfl) (da_cons (de_var (pv 0)) (da_cons (de_add rfl (de_var (pv 1)) de_int) da_nil)) (lenA_cons (lenA_cons lenA_nil))) (da_cons (de_lst da_nil) da_nil)) rfl))
 (dss_cons (ds_for (passes_of rfl) rfl (di_range1 (by rfl) B.b_range (da_cons (de_var (pv 3)) da_nil)) (dg_name (pg_name (i := 5) sc_u_law_tasks.nd rfl (by first | exact Or.inl rfl | exact Or.inr rfl)) (by intro l h; cases h <;> decide))
 (dss_cons (ds_set (ps_set (i := 6) sc_u_law_tasks.nd rfl (by first | exact Or.inl rfl | exact Or.inr rfl) (de_ifExp (dt_lt (de_add rfl (de_var (pv 5)) de_int) (de_var (pv 3))) (de_add rfl (de_add rfl (de_var (pv 5)) de_int) (de_callC [true, false] rfl C_u_law_take (hr.mono (by omega)) (by rfl) (takes_of rfl rfl rfl rfl) (da_cons (de_var (pv 0)) (da_cons (de_callB (CallR.or (call_min2 rfl) (cr_min rfl)) do_min (by rfl) B.b_min bt_min (da_cons de_int (da_cons (de_sub (de_var (pv 3)) (de_var (pv 5))) da_nil))) da_nil)) (lenA_cons (lenA_cons lenA_nil)))) (de_var (pv 3)))))
 (dss_cons (ds_set (ps_set (i := 7) sc_u_law_tasks.nd rfl (by first | exact Or.inl rfl | exact Or.inr rfl) (de_add rfl (de_callC [true, false] rfl C_u_law_take (hr.mono (by omega)) (by rfl) (takes_of rfl rfl rfl rfl) (da_cons (de_var (pv 0)) (da_cons (de_var (pv 2)) da_nil)) (lenA_cons (lenA_cons lenA_nil))) de_int)))
 (dss_one (ds_expr (de_append rfl (de_var (pv 4)) (da_cons (de_tup (da_cons (de_ifExp (PW.pt (dw_and (dt_lt (de_var (pv 6)) (de_var (pv 3))) (pw_and1 (dt_gt (de_callC [true, false] rfl C_u_law_take (hr.mono (by omega)) (by rfl) (takes_of rfl rfl rfl rfl) (da_cons (de_var (pv 0)) (da_cons de_int da_nil)) (lenA_cons (lenA_cons lenA_nil))) de_int)))) (de_var (pv 6)) de_non) (da_cons (de_var (pv 7)) (da_cons (de_callC [true, false] rfl C_u_law_take (hr.mono (by omega)) (by rfl) (takes_of rfl rfl rfl rfl) (da_cons (de_var (pv 0)) (da_cons (de_add rfl (de_var (pv 7)) de_int) da_nil)) (lenA_cons (lenA_cons lenA_nil))) da_nil)))) da_nil) (fun ho ha => pe_bm PySem.F.plainAttrs_list PySem.F.slot_list_append PySem.F.type_list_append mt_append ho ha)))))))
 (dss_one (ds_ret (de_callTy call_tuple_of do_tuple (by rfl) B.b_tuple bt_tuple (da_cons (de_var (pv 4)) da_nil)))))),
    D.mg, D.kp, D.binds fun _ _ _ _ _ _ us hl => match us, hl with | [_, _, _], _ => rfl, D.lk⟩
/-! ### _law_children -/
abbrev s_u_law_children : Stmt := topS 24
theorem sc_u_law_children : FnScope ["tasks", "number", "child"] ["tasks"] (defScope s_u_law_children) := ⟨rfl, rfl, rfl, by decide +kernel, rfl, by decide +kernel, by decide +kernel⟩
def b_u_law_children : M Fl :=
 (rRet (lcD [1] (rGo rng1 (rAc (rC gLen (rAc (getSl 0) rA0)) rA0)) (putSl 1) (pure true) (rC gTuple (rAc (lcD [2] (rGo rng1 (rAc (rC gLen (rAc (getSl 0) rA0)) rA0)) (putSl 2) (rT (rO gEq (rO gIx (rO gIx (getSl 0) (getSl 2)) (rI 0)) (getSl 1))) (getSl 2)) rA0))))
def f_u_law_children : FD := runF 3 (b_u_law_children)
theorem ok_u_law_children {fA : Addr} {fd : FuncData} {cd : Value} (D : DefAt K mg "_law_children" s_u_law_children fA fd cd) (B : Blt mg) : Callee P w K mg base "_law_children" 1 ["tasks"] 1 T cls (f_u_law_children) :=
  ⟨_, _, D.ok sc_u_law_children fun A outer s H E G hK hT hc hr => by
    subst hK hT hc
    exact (dss_one (ds_ret (de_lc (own := [("number", 1)]) rfl sc_u_law_children.nd (di_range1 (by rfl) B.b_range (da_cons (de_callB (CallR.or call_len_seq (CallR.or call_lenD call_len_str)) do_len (by rfl) B.b_len bt_len (da_cons (de_var (pv 0)) da_nil)) da_nil)) (blkOk_by (by rfl)) (fun _ _ _ _ _ => (dg_name (pg_name (i := 1) sc_u_law_children.nd rfl (by first | exact Or.inl rfl | exact Or.inr rfl)) (by intro l h; cases h <;> decide))) (fun _ _ _ _ _ => dts_nil) (fun _ _ _ _ _ => (de_callTy call_tuple_of do_tuple (by rfl) B.b_tuple bt_tuple (da_cons (de_lc (own := [("child", 2)]) rfl sc_u_law_children.nd (di_range1 (by rfl) B.b_range (da_cons (de_callB (CallR.or call_len_seq (CallR.or call_lenD call_len_str)) do_len (by rfl) B.b_len bt_len (da_cons (de_var (pv 0)) da_nil)) da_nil)) (blkOk_by (by rfl)) (fun _ _ _ _ _ => (dg_name (pg_name (i := 2) sc_u_law_children.nd rfl (by first | exact Or.inl rfl | exact Or.inr rfl)) (by intro l h; cases h <;> decide))) (fun _ _ _ _ _ => (dts_one (dt_eq rfl hr (de_ix rfl hr (de_ix rfl hr (de_var (pv 0)) (de_var (pv 2)) (fun _ _ => rfl)) de_int (fun _ _ => rfl)) (de_var (pv 1))))) (fun _ _ _ _ _ => (de_var (pv 2)))) da_nil)))))),
    D.mg, D.kp, D.binds fun _ _ _ _ _ _ us hl => match us, hl with | [_], _ => rfl, D.lk⟩
end
end Den
namespace Den
open PySem PySem.Spec PyProof.Rows L2
section
variable {P : Program} {w : World} {K : PySem.W.Frag} {mg : Str → Option Value} {base : Heap} {T : List (Addr × Option Str)} {cls : String → Option Value}
/-! ### _law_joined -/
abbrev s_u_law_joined : Stmt := topS 25
theorem sc_u_law_joined : FnScope ["rows", "found", "row", "later", "done_one", "spot"] ["rows"] (defScope s_u_law_joined) := ⟨rfl, rfl, rfl, by decide +kernel, rfl, by decide +kernel, by decide +kernel⟩
def b_u_law_joined : M Fl :=
 (thenS (setF 1 (rC mkL (rAc (rC mkT rA0) rA0)))
 (thenS (rFor (rItems (getSl 0)) (putSl 2)
 (thenS (rAsg (rC mkL rA0) (putSl 3))
 (thenS (rFor (rItems (getSl 1)) (putSl 4)
 (rFor (rGo rng1 (rAc (rO gAdd (rC gLen (rAc (getSl 4) rA0)) (rI 1)) rA0)) (putSl 5)
 (rExpr (rAppend (getSl 3) (rAc (rO gAdd (rO gAdd (rSlice (getSl 4) rOn (rOs (getSl 5))) (rC mkT (rAc (getSl 2) rA0))) (rSlice (getSl 4) (rOs (getSl 5)) rOn)) rA0)))))
 (rAsg (getSl 3) (putSl 1)))))
 (rRet (getSl 1))))
def f_u_law_joined : FD := runF 6 (b_u_law_joined)
theorem ok_u_law_joined {fA : Addr} {fd : FuncData} {cd : Value} (D : DefAt K mg "_law_joined" s_u_law_joined fA fd cd) (B : Blt mg) : Callee P w K mg base "_law_joined" 1 ["rows"] 1 T cls (f_u_law_joined) :=
  ⟨_, _, D.ok sc_u_law_joined fun A outer s H E G hK hT hc hr => by
    subst hK hT hc
    exact (dss_cons (ds_setF (ps_set (i := 1) sc_u_law_joined.nd rfl (by first | exact Or.inl rfl | exact Or.inr rfl) (de_lst (da_cons (de_tup da_nil) da_nil))))
 (dss_cons (ds_for (passes_of rfl) rfl (di_seq rfl (de_var (pv 0))) (dg_name (pg_name (i := 2) sc_u_law_joined.nd rfl (by first | exact Or.inl rfl | exact Or.inr rfl)) (by intro l h; cases h <;> decide))
 (dss_cons (ds_set (ps_set (i := 3) sc_u_law_joined.nd rfl (by first | exact Or.inl rfl | exact Or.inr rfl) (de_lst da_nil)))
 (dss_cons (ds_for (passes_of rfl) rfl (di_seq rfl (de_var (pv 1))) (dg_name (pg_name (i := 4) sc_u_law_joined.nd rfl (by first | exact Or.inl rfl | exact Or.inr rfl)) (by intro l h; cases h <;> decide))
 (dss_one (ds_for (passes_of rfl) rfl (di_range1 (by rfl) B.b_range (da_cons (de_add rfl (de_callB (CallR.or call_len_seq (CallR.or call_lenD call_len_str)) do_len (by rfl) B.b_len bt_len (da_cons (de_var (pv 4)) da_nil)) de_int) da_nil)) (dg_name (pg_name (i := 5) sc_u_law_joined.nd rfl (by first | exact Or.inl rfl | exact Or.inr rfl)) (by intro l h; cases h <;> decide))
 (dss_one (ds_expr (de_append rfl (de_var (pv 3)) (da_cons (de_add rfl (de_add rfl (de_slice rfl (de_var (pv 4)) do_none (do_some (de_var (pv 5)))) (de_tup (da_cons (de_var (pv 2)) da_nil))) (de_slice rfl (de_var (pv 4)) (do_some (de_var (pv 5))) do_none)) da_nil) (fun ho ha => pe_bm PySem.F.plainAttrs_list PySem.F.slot_list_append PySem.F.type_list_append mt_append ho ha)))))))
 (dss_one (ds_set (ps_set (i := 1) sc_u_law_joined.nd rfl (by first | exact Or.inl rfl | exact Or.inr rfl) (de_var (pv 3))))))))
 (dss_one (ds_ret (de_var (pv 1)))))),
    D.mg, D.kp, D.binds fun _ _ _ _ _ _ us hl => match us, hl with | [_], _ => rfl, D.lk⟩
/-! ### _law_least -/
abbrev s_u_law_least : Stmt := topS 26
theorem sc_u_law_least : FnScope ["tasks", "children", "found", "number", "best", "order", "held", "most", "child"] ["tasks"] (defScope s_u_law_least) := ⟨rfl, rfl, rfl, by decide +kernel, rfl, by decide +kernel, by decide +kernel⟩
def b_u_law_least : M Fl :=
 (thenS (rPar 1 2 (rAc (rC (callD f_u_law_children [false]) (rAc (getSl 0) rA0)) (rAc (rC mkL rA0) rA0)))
 (thenS (rFor (rGo rng1 (rAc (rC gLen (rAc (getSl 0) rA0)) rA0)) (putSl 3)
 (thenS (rAsg rN (putSl 4))
 (thenS (rFor (rItems (rC (callD f_u_law_joined [false]) (rAc (rC gListA (rAc (rO gIx (getSl 1) (getSl 3)) rA0)) rA0))) (putSl 5)
 (thenS (tupN 2 (rAc (rI 0) (rAc (rI 0) rA0)) (gsCons (putSl 6) (gsCons (putSl 7) gsNil)))
 (thenS (rFor (rItems (getSl 5)) (putSl 8)
 (rPar 7 6 (rAc (rC gMax (rAc (getSl 7) (rAc (rO gAdd (getSl 6) (rO gIx (getSl 2) (getSl 8))) rA0))) (rAc (rO gAdd (getSl 6) (rO gIx (rO gIx (getSl 0) (getSl 8)) (rI 2))) rA0))))
 (thenS (rAsg (rC gMax (rAc (getSl 7) (rAc (rO gAdd (getSl 6) (rO gIx (rO gIx (getSl 0) (getSl 3)) (rI 1))) rA0))) (putSl 7))
 (rAsg (rIfE (rT (rO (gIsN false) (getSl 4) rN)) (getSl 7) (rC gMin (rAc (getSl 4) (rAc (getSl 7) rA0)))) (putSl 4))))))
 (rExpr (rAppend (getSl 2) (rAc (getSl 4) rA0))))))
 (rRet (getSl 2))))
def f_u_law_least : FD := runF 9 (b_u_law_least)
theorem ok_u_law_least {fA : Addr} {fd : FuncData} {cd : Value} (D : DefAt K mg "_law_least" s_u_law_least fA fd cd) (B : Blt mg) (C_u_law_children : Callee P w K mg base "_law_children" 1 ["tasks"] 1 T cls f_u_law_children) (C_u_law_joined : Callee P w K mg base "_law_joined" 1 ["rows"] 1 T cls f_u_law_joined) : Callee P w K mg base "_law_least" 2 ["tasks"] 1 T cls (f_u_law_least) :=
  ⟨_, _, D.ok sc_u_law_least fun A outer s H E G hK hT hc hr => by
    subst hK hT hc
    exact (dss_cons (ds_par (ps_par (i := 1) (j := 2) rfl sc_u_law_least.nd rfl rfl (by decide) rfl rfl (da_cons (de_callC [false] rfl C_u_law_children (hr.mono (by omega)) (by rfl) (takes_of rfl rfl rfl rfl) (da_cons (de_var (pv 0)) da_nil) (lenA_cons lenA_nil)) (da_cons (de_lst da_nil) da_nil)) rfl))
 (dss_cons (ds_for (passes_of rfl) rfl (di_range1 (by rfl) B.b_range (da_cons (de_callB (CallR.or call_len_seq (CallR.or call_lenD call_len_str)) do_len (by rfl) B.b_len bt_len (da_cons (de_var (pv 0)) da_nil)) da_nil)) (dg_name (pg_name (i := 3) sc_u_law_least.nd rfl (by first | exact Or.inl rfl | exact Or.inr rfl)) (by intro l h; cases h <;> decide))
 (dss_cons (ds_set (ps_set (i := 4) sc_u_law_least.nd rfl (by first | exact Or.inl rfl | exact Or.inr rfl) de_non))
 (dss_cons (ds_for (passes_of rfl) rfl (di_seq rfl (de_callC [false] rfl C_u_law_joined (hr.mono (by omega)) (by rfl) (takes_of rfl rfl rfl rfl) (da_cons (de_callTy (CallR.or call_list_of (call_listD rfl)) do_listA (by rfl) B.b_list bt_list (da_cons (de_ix rfl hr (de_var (pv 1)) (de_var (pv 3)) (fun _ _ => rfl)) da_nil)) da_nil) (lenA_cons lenA_nil))) (dg_name (pg_name (i := 5) sc_u_law_least.nd rfl (by first | exact Or.inl rfl | exact Or.inr rfl)) (by intro l h; cases h <;> decide))
 (dss_cons (ds_tupN rfl rfl (da_cons de_int (da_cons de_int da_nil)) (dgs_cons (dg_name (pg_name (i := 6) sc_u_law_least.nd rfl (by first | exact Or.inl rfl | exact Or.inr rfl)) (by intro l h; cases h <;> decide)) (dgs_cons (dg_name (pg_name (i := 7) sc_u_law_least.nd rfl (by first | exact Or.inl rfl | exact Or.inr rfl)) (by intro l h; cases h <;> decide)) dgs_nil)))
 (dss_cons (ds_for (passes_of rfl) rfl (di_seq rfl (de_var (pv 5))) (dg_name (pg_name (i := 8) sc_u_law_least.nd rfl (by first | exact Or.inl rfl | exact Or.inr rfl)) (by intro l h; cases h <;> decide))
 (dss_one (ds_par (ps_par (i := 7) (j := 6) rfl sc_u_law_least.nd rfl rfl (by decide) rfl rfl (da_cons (de_callB (CallR.or (call_max2 rfl) (cr_max rfl)) do_max (by rfl) B.b_max bt_max (da_cons (de_var (pv 7)) (da_cons (de_add rfl (de_var (pv 6)) (de_ix rfl hr (de_var (pv 2)) (de_var (pv 8)) (fun _ _ => rfl))) da_nil))) (da_cons (de_add rfl (de_var (pv 6)) (de_ix rfl hr (de_ix rfl hr (de_var (pv 0)) (de_var (pv 8)) (fun _ _ => rfl)) de_int (fun _ _ => rfl))) da_nil)) rfl))))
 (dss_cons (ds_set (ps_set (i := 7) sc_u_law_least.nd rfl (by first | exact Or.inl rfl | exact Or.inr rfl) (de_callB (CallR.or (call_max2 rfl) (cr_max rfl)) do_max (by rfl) B.b_max bt_max (da_cons (de_var (pv 7)) (da_cons (de_add rfl (de_var (pv 6)) (de_ix rfl hr (de_ix rfl hr (de_var (pv 0)) (de_var (pv 3)) (fun _ _ => rfl)) de_int (fun _ _ => rfl))) da_nil)))))
 (dss_one (ds_set (ps_set (i := 4) sc_u_law_least.nd rfl (by first | exact Or.inl rfl | exact Or.inr rfl) (de_ifExp (dt_isN (by rfl) (de_var (pv 4)) de_non) (de_var (pv 7)) (de_callB (CallR.or (call_min2 rfl) (cr_min rfl)) do_min (by rfl) B.b_min bt_min (da_cons (de_var (pv 4)) (da_cons (de_var (pv 7)) da_nil)))))))))))
 (dss_one (ds_expr (de_append rfl (de_var (pv 2)) (da_cons (de_var (pv 4)) da_nil) (fun ho ha => pe_bm PySem.F.plainAttrs_list PySem.F.slot_list_append PySem.F.type_list_append mt_append ho ha)))))))
 (dss_one (ds_ret (de_var (pv 2)))))),
    D.mg, D.kp, D.binds fun _ _ _ _ _ _ us hl => match us, hl with | [_], _ => rfl, D.lk⟩
end
end Den
namespace Den
open PySem PySem.Spec PyProof.Rows L2
section
variable {P : Program} {w : World} {K : PySem.W.Frag} {mg : Str → Option Value} {base : Heap} {T : List (Addr × Option Str)} {cls : String → Option Value}
/-! ### _law_turn -/
abbrev s_u_law_turn : Stmt := topS 27
theorem sc_u_law_turn : FnScope ["tasks", "peaks", "some", "row", "child"] ["tasks", "peaks", "some"] (defScope s_u_law_turn) := ⟨rfl, rfl, rfl, by decide +kernel, rfl, by decide +kernel, by decide +kernel⟩
def b_u_law_turn : M Fl :=
 (rRet (lcD [3] (rItems (rC gSorted (rAc (lcD [4] (rItems (getSl 2)) (putSl 4) (pure true) (rC mkT (rAc (rO gSub (rO gIx (rO gIx (getSl 0) (getSl 4)) (rI 2)) (rO gIx (getSl 1) (getSl 4))) (rAc (getSl 4) rA0)))) rA0))) (putSl 3) (pure true) (rO gIx (getSl 3) (rI 1))))
def f_u_law_turn : FD := runF 5 (b_u_law_turn)
theorem ok_u_law_turn {fA : Addr} {fd : FuncData} {cd : Value} (D : DefAt K mg "_law_turn" s_u_law_turn fA fd cd) (B : Blt mg) : Callee P w K mg base "_law_turn" 1 ["tasks", "peaks", "some"] 3 T cls (f_u_law_turn) :=
  ⟨_, _, D.ok sc_u_law_turn fun A outer s H E G hK hT hc hr => by
    subst hK hT hc
    exact (dss_one (ds_ret (de_lc (own := [("row", 3)]) rfl sc_u_law_turn.nd (di_seq rfl (de_callB cr_sortedA do_sorted (by rfl) B.b_sorted bt_sorted (da_cons (de_lc (own := [("child", 4)]) rfl sc_u_law_turn.nd (di_seq rfl (de_var (pv 2))) (blkOk_by (by rfl)) (fun _ _ _ _ _ => (dg_name (pg_name (i := 4) sc_u_law_turn.nd rfl (by first | exact Or.inl rfl | exact Or.inr rfl)) (by intro l h; cases h <;> decide))) (fun _ _ _ _ _ => dts_nil) (fun _ _ _ _ _ => (de_tup (da_cons (de_sub (de_ix rfl hr (de_ix rfl hr (de_var (pv 0)) (de_var (pv 4)) (fun _ _ => rfl)) de_int (fun _ _ => rfl)) (de_ix rfl hr (de_var (pv 1)) (de_var (pv 4)) (fun _ _ => rfl))) (da_cons (de_var (pv 4)) da_nil))))) da_nil))) (blkOk_by (by rfl)) (fun _ _ _ _ _ => (dg_name (pg_name (i := 3) sc_u_law_turn.nd rfl (by first | exact Or.inl rfl | exact Or.inr rfl)) (by intro l h; cases h <;> decide))) (fun _ _ _ _ _ => dts_nil) (fun _ _ _ _ _ => (de_ix rfl hr (de_var (pv 3)) de_int (fun _ _ => rfl)))))),
    D.mg, D.kp, D.binds fun _ _ _ _ _ _ us hl => match us, hl with | [_, _, _], _ => rfl, D.lk⟩
/-! ### _law_some -/
abbrev s_u_law_some : Stmt := topS 28
theorem sc_u_law_some : FnScope ["tasks", "peaks", "children", "number", "held", "some", "rows", "child", "most", "need", "first"] ["tasks", "peaks", "children", "number"] (defScope s_u_law_some) := ⟨rfl, rfl, rfl, by decide +kernel, rfl, by decide +kernel, by decide +kernel⟩
def b_u_law_some : M Fl :=
 (thenS (par3D 4 5 6 (rAc (rI 0) (rAc (rC mkT rA0) (rAc (rC mkL rA0) rA0))))
 (thenS (rFor (rItems (rC (callD f_u_law_turn [false, false, false]) (rAc (getSl 0) (rAc (getSl 1) (rAc (rO gIx (getSl 2) (getSl 3)) rA0))))) (putSl 7)
 (thenS (rAsg (rO gAdd (getSl 5) (rC mkT (rAc (getSl 7) rA0))) (putSl 5))
 (thenS (rExpr (rAppend (getSl 6) (rAc (rC mkT (rAc (rO gAdd (getSl 4) (rO gIx (getSl 1) (getSl 7))) (rAc (getSl 5) rA0))) rA0)))
 (rAsg (rO gAdd (getSl 4) (rO gIx (rO gIx (getSl 0) (getSl 7)) (rI 2))) (putSl 4)))))
 (thenS (rAsg (rC gMax (rAc (rO gAdd (lcD [9, 10] (rItems (getSl 6)) (unT 2 (gsCons (putSl 9) (gsCons (putSl 10) gsNil))) (pure true) (getSl 9)) (rC mkL (rAc (rNeg (rI 1)) rA0))) rA0)) (putSl 8))
 (thenS (rIf (rT (rO gLe (getSl 8) (rO gAdd (getSl 4) (rO gIx (rO gIx (getSl 0) (getSl 3)) (rI 1)))))
 (rRet (rC mkT rA0))
 (pure .nx))
 (rRet (rC gTuple (rAc (rC gSorted (rAc (rO gIx (lcD [9, 10] (rItems (getSl 6)) (unT 2 (gsCons (putSl 9) (gsCons (putSl 10) gsNil))) (rT (rO gEq (getSl 9) (getSl 8))) (getSl 10)) (rI 0)) rA0)) rA0)))))))
def f_u_law_some : FD := runF 11 (b_u_law_some)
theorem ok_u_law_some {fA : Addr} {fd : FuncData} {cd : Value} (D : DefAt K mg "_law_some" s_u_law_some fA fd cd) (B : Blt mg) (C_u_law_turn : Callee P w K mg base "_law_turn" 1 ["tasks", "peaks", "some"] 3 T cls f_u_law_turn) : Callee P w K mg base "_law_some" 2 ["tasks", "peaks", "children", "number"] 4 T cls (f_u_law_some) :=
  ⟨_, _, D.ok sc_u_law_some fun A outer s H E G hK hT hc hr => by
    subst hK hT hc
    exact (dss_cons (ds_par3 (ps_par3 (i := 4) (j := 5) (l := 6) rfl sc_u_law_some.nd rfl rfl rfl (by decide) (by decide) (by decide) rfl rfl rfl (da_cons de_int (da_cons (de_tup da_nil) (da_cons (de_lst da_nil) da_nil))) rfl))
 (dss_cons (ds_for (passes_of rfl) rfl (di_seq rfl (de_callC [false, false, false] rfl C_u_law_turn (hr.mono (by omega)) (by rfl) (takes_of rfl rfl rfl rfl) (da_cons (de_var (pv 0)) (da_cons (de_var (pv 1)) (da_cons (de_ix rfl hr (de_var (pv 2)) (de_var (pv 3)) (fun _ _ => rfl)) da_nil))) (lenA_cons (lenA_cons (lenA_cons lenA_nil))))) (dg_name (pg_name (i := 7) sc_u_law_some.nd rfl (by first | exact Or.inl rfl | exact Or.inr rfl)) (by intro l h; cases h <;> decide))
 (dss_cons (ds_set (ps_set (i := 5) sc_u_law_some.nd rfl (by first | exact Or.inl rfl | exact Or.inr rfl) (de_add rfl (de_var (pv 5)) (de_tup (da_cons (de_var (pv 7)) da_nil)))))
 (dss_cons (ds_expr (de_append rfl (de_var (pv 6)) (da_cons (de_tup (da_cons (de_add rfl (de_var (pv 4)) (de_ix rfl hr (de_var (pv 1)) (de_var (pv 7)) (fun _ _ => rfl))) (da_cons (de_var (pv 5)) da_nil))) da_nil) (fun ho ha => pe_bm PySem.F.plainAttrs_list PySem.F.slot_list_append PySem.F.type_list_append mt_append ho ha)))
 (dss_one (ds_set (ps_set (i := 4) sc_u_law_some.nd rfl (by first | exact Or.inl rfl | exact Or.inr rfl) (de_add rfl (de_var (pv 4)) (de_ix rfl hr (de_ix rfl hr (de_var (pv 0)) (de_var (pv 7)) (fun _ _ => rfl)) de_int (fun _ _ => rfl)))))))))
 (dss_cons (ds_set (ps_set (i := 8) sc_u_law_some.nd rfl (by first | exact Or.inl rfl | exact Or.inr rfl) (de_callB (CallR.or (call_max2 rfl) (cr_max rfl)) do_max (by rfl) B.b_max bt_max (da_cons (de_add rfl (de_lc (own := [("need", 9), ("first", 10)]) rfl sc_u_law_some.nd (di_seq rfl (de_var (pv 6))) (blkOk_by (by rfl)) (fun _ _ _ _ _ => (dg_tup rfl rfl (dgs_cons (dg_name (pg_name (i := 9) sc_u_law_some.nd rfl (by first | exact Or.inl rfl | exact Or.inr rfl)) (by intro l h; cases h <;> decide)) (dgs_cons (dg_name (pg_name (i := 10) sc_u_law_some.nd rfl (by first | exact Or.inl rfl | exact Or.inr rfl)) (by intro l h; cases h <;> decide)) dgs_nil)))) (fun _ _ _ _ _ => dts_nil) (fun _ _ _ _ _ => (de_var (pv 9)))) (de_lst (da_cons (de_neg de_int) da_nil))) da_nil))))
 (dss_cons (ds_if (dt_le (de_var (pv 8)) (de_add rfl (de_var (pv 4)) (de_ix rfl hr (de_ix rfl hr (de_var (pv 0)) (de_var (pv 3)) (fun _ _ => rfl)) de_int (fun _ _ => rfl))))
 (dss_one (ds_ret (de_tup da_nil)))
 dss_nil)
 (dss_one (ds_ret (de_callTy call_tuple_of do_tuple (by rfl) B.b_tuple bt_tuple (da_cons (de_callB cr_sortedA do_sorted (by rfl) B.b_sorted bt_sorted (da_cons (de_ix rfl hr (de_lc (own := [("need", 9), ("first", 10)]) rfl sc_u_law_some.nd (di_seq rfl (de_var (pv 6))) (blkOk_by (by rfl)) (fun _ _ _ _ _ => (dg_tup rfl rfl (dgs_cons (dg_name (pg_name (i := 9) sc_u_law_some.nd rfl (by first | exact Or.inl rfl | exact Or.inr rfl)) (by intro l h; cases h <;> decide)) (dgs_cons (dg_name (pg_name (i := 10) sc_u_law_some.nd rfl (by first | exact Or.inl rfl | exact Or.inr rfl)) (by intro l h; cases h <;> decide)) dgs_nil)))) (fun _ _ _ _ _ => (dts_one (dt_eq rfl hr (de_var (pv 9)) (de_var (pv 8))))) (fun _ _ _ _ _ => (de_var (pv 10)))) de_int (fun _ _ => rfl)) da_nil)) da_nil)))))))),
    D.mg, D.kp, D.binds fun _ _ _ _ _ _ us hl => match us, hl with | [_, _, _, _], _ => rfl, D.lk⟩
end
end Den
namespace Den
open PySem PySem.Spec PyProof.Rows L2
section
variable {P : Program} {w : World} {K : PySem.W.Frag} {mg : Str → Option Value} {base : Heap} {T : List (Addr × Option Str)} {cls : String → Option Value}
/-! ### _law_right -/
abbrev s_u_law_right : Stmt := topS 29
theorem sc_u_law_right : FnScope ["tasks", "children", "value", "number", "bound", "some", "held", "child"] ["tasks", "children", "value"] (defScope s_u_law_right) := ⟨rfl, rfl, rfl, by decide +kernel, rfl, by decide +kernel, by decide +kernel⟩
def b_u_law_right : M Fl :=
 (thenS (rFor (rGo rng1 (rAc (rC gLen (rAc (getSl 0) rA0)) rA0)) (putSl 3)
 (thenS (rAsg (rO gIx (getSl 2) (getSl 3)) (unT 2 (gsCons (putSl 4) (gsCons (putSl 5) gsNil))))
 (thenS (rIf (orT (rT (rO gLt (getSl 4) (rI 0))) (orT (rT (rO gNe (lcD [7] (rItems (getSl 5)) (putSl 7) (rT (rO (gIn true) (getSl 7) (rO gIx (getSl 1) (getSl 3)))) (getSl 7)) (rC mkL rA0))) (rT (rO gNe (rC gListA (rAc (getSl 5) rA0)) (rC gSorted (rAc (rC gListA (rAc (rC gDictP (rAc (lcD [7] (rItems (getSl 5)) (putSl 7) (pure true) (rC mkT (rAc (getSl 7) (rAc (rI 1) rA0)))) rA0)) rA0)) rA0))))))
 (rRet (rB false))
 (pure .nx))
 (rIf (rT (rO gEq (getSl 5) (rC mkT rA0)))
 (rIf (rT (rO gGt (getSl 4) (rO gAdd (rC gSum (rAc (lcD [7] (rItems (rO gIx (getSl 1) (getSl 3))) (putSl 7) (pure true) (rO gIx (rO gIx (getSl 0) (getSl 7)) (rI 2))) rA0)) (rO gIx (rO gIx (getSl 0) (getSl 3)) (rI 1)))))
 (rRet (rB false))
 (pure .nx))
 (thenS (rAsg (rC gSum (rAc (lcD [7] (rItems (getSl 5)) (putSl 7) (pure true) (rO gIx (rO gIx (getSl 0) (getSl 7)) (rI 2))) rA0)) (putSl 6))
 (rIf (rT (rO gNe (lcD [7] (rItems (getSl 5)) (putSl 7) (rT (rO gGt (getSl 4) (rO gAdd (rO gSub (getSl 6) (rO gIx (rO gIx (getSl 0) (getSl 7)) (rI 2))) (rO gIx (rO gIx (getSl 2) (getSl 7)) (rI 0))))) (getSl 7)) (rC mkL rA0)))
 (rRet (rB false))
 (pure .nx)))))))
 (rRet (rB true)))
def f_u_law_right : FD := runF 8 (b_u_law_right)
theorem ok_u_law_right {fA : Addr} {fd : FuncData} {cd : Value} (D : DefAt K mg "_law_right" s_u_law_right fA fd cd) (B : Blt mg) : Callee P w K mg base "_law_right" 1 ["tasks", "children", "value"] 3 T cls (f_u_law_right) :=
  ⟨_, _, D.ok sc_u_law_right fun A outer s H E G hK hT hc hr => by
    subst hK hT hc
    exact (dss_cons (ds_for (passes_of rfl) rfl (di_range1 (by rfl) B.b_range (da_cons (de_callB (CallR.or call_len_seq (CallR.or call_lenD call_len_str)) do_len (by rfl) B.b_len bt_len (da_cons (de_var (pv 0)) da_nil)) da_nil)) (dg_name (pg_name (i := 3) sc_u_law_right.nd rfl (by first | exact Or.inl rfl | exact Or.inr rfl)) (by intro l h; cases h <;> decide))
 (dss_cons (ds_asg (de_ix rfl hr (de_var (pv 2)) (de_var (pv 3)) (fun _ _ => rfl)) (dg_tup rfl rfl (dgs_cons (dg_name (pg_name (i := 4) sc_u_law_right.nd rfl (by first | exact Or.inl rfl | exact Or.inr rfl)) (by intro l h; cases h <;> decide)) (dgs_cons (dg_name (pg_name (i := 5) sc_u_law_right.nd rfl (by first | exact Or.inl rfl | exact Or.inr rfl)) (by intro l h; cases h <;> decide)) dgs_nil))))
 (dss_cons (ds_if (PW.pt (dw_or (dt_lt (de_var (pv 4)) de_int) (dw_or (dt_ne rfl hr (de_lc (own := [("child", 7)]) rfl sc_u_law_right.nd (di_seq rfl (de_var (pv 5))) (blkOk_by (by rfl)) (fun _ _ _ _ _ => (dg_name (pg_name (i := 7) sc_u_law_right.nd rfl (by first | exact Or.inl rfl | exact Or.inr rfl)) (by intro l h; cases h <;> decide))) (fun _ _ _ _ _ => (dts_one (dt_notIn rfl (by rfl) (de_var (pv 7)) (de_ix rfl hr (de_var (pv 1)) (de_var (pv 3)) (fun _ _ => rfl))))) (fun _ _ _ _ _ => (de_var (pv 7)))) (de_lst da_nil)) (pw_or1 (dt_ne rfl hr (de_callTy (CallR.or call_list_of (call_listD rfl)) do_listA (by rfl) B.b_list bt_list (da_cons (de_var (pv 5)) da_nil)) (de_callB cr_sortedA do_sorted (by rfl) B.b_sorted bt_sorted (da_cons (de_callTy (CallR.or call_list_of (call_listD rfl)) do_listA (by rfl) B.b_list bt_list (da_cons (de_callTy (call_dictP rfl) do_dictP (by rfl) B.b_dict bt_dict (da_cons (de_lc (own := [("child", 7)]) rfl sc_u_law_right.nd (di_seq rfl (de_var (pv 5))) (blkOk_by (by rfl)) (fun _ _ _ _ _ => (dg_name (pg_name (i := 7) sc_u_law_right.nd rfl (by first | exact Or.inl rfl | exact Or.inr rfl)) (by intro l h; cases h <;> decide))) (fun _ _ _ _ _ => dts_nil) (fun _ _ _ _ _ => (de_tup (da_cons (de_var (pv 7)) (da_cons de_int da_nil))))) da_nil)) da_nil)) da_nil)))))))
 (dss_one (ds_ret de_bl))
 dss_nil)
 (dss_one (ds_if (dt_eq rfl hr (de_var (pv 5)) (de_tup da_nil))
 (dss_one (ds_if (dt_gt (de_var (pv 4)) (de_add rfl (de_callB (cr_sum rfl) do_sum (by rfl) B.b_sum bt_sum (da_cons (de_lc (own := [("child", 7)]) rfl sc_u_law_right.nd (di_seq rfl (de_ix rfl hr (de_var (pv 1)) (de_var (pv 3)) (fun _ _ => rfl))) (blkOk_by (by rfl)) (fun _ _ _ _ _ => (dg_name (pg_name (i := 7) sc_u_law_right.nd rfl (by first | exact Or.inl rfl | exact Or.inr rfl)) (by intro l h; cases h <;> decide))) (fun _ _ _ _ _ => dts_nil) (fun _ _ _ _ _ => (de_ix rfl hr (de_ix rfl hr (de_var (pv 0)) (de_var (pv 7)) (fun _ _ => rfl)) de_int (fun _ _ => rfl)))) da_nil)) (de_ix rfl hr (de_ix rfl hr (de_var (pv 0)) (de_var (pv 3)) (fun _ _ => rfl)) de_int (fun _ _ => rfl))))
 (dss_one (ds_ret de_bl))
 dss_nil))
 (dss_cons (ds_set (ps_set (i := 6) sc_u_law_right.nd rfl (by first | exact Or.inl rfl | exact Or.inr rfl) (de_callB (cr_sum rfl) do_sum (by rfl) B.b_sum bt_sum (da_cons (de_lc (own := [("child", 7)]) rfl sc_u_law_right.nd (di_seq rfl (de_var (pv 5))) (blkOk_by (by rfl)) (fun _ _ _ _ _ => (dg_name (pg_name (i := 7) sc_u_law_right.nd rfl (by first | exact Or.inl rfl | exact Or.inr rfl)) (by intro l h; cases h <;> decide))) (fun _ _ _ _ _ => dts_nil) (fun _ _ _ _ _ => (de_ix rfl hr (de_ix rfl hr (de_var (pv 0)) (de_var (pv 7)) (fun _ _ => rfl)) de_int (fun _ _ => rfl)))) da_nil))))
 (dss_one (ds_if (dt_ne rfl hr (de_lc (own := [("child", 7)]) rfl sc_u_law_right.nd (di_seq rfl (de_var (pv 5))) (blkOk_by (by rfl)) (fun _ _ _ _ _ => (dg_name (pg_name (i := 7) sc_u_law_right.nd rfl (by first | exact Or.inl rfl | exact Or.inr rfl)) (by intro l h; cases h <;> decide))) (fun _ _ _ _ _ => (dts_one (dt_gt (de_var (pv 4)) (de_add rfl (de_sub (de_var (pv 6)) (de_ix rfl hr (de_ix rfl hr (de_var (pv 0)) (de_var (pv 7)) (fun _ _ => rfl)) de_int (fun _ _ => rfl))) (de_ix rfl hr (de_ix rfl hr (de_var (pv 2)) (de_var (pv 7)) (fun _ _ => rfl)) de_int (fun _ _ => rfl)))))) (fun _ _ _ _ _ => (de_var (pv 7)))) (de_lst da_nil))
 (dss_one (ds_ret de_bl))
 dss_nil))))))))
 (dss_one (ds_ret de_bl))),
    D.mg, D.kp, D.binds fun _ _ _ _ _ _ us hl => match us, hl with | [_, _, _], _ => rfl, D.lk⟩
end
end Den
namespace Den
open PySem PySem.Spec PyProof.Rows L2
section
variable {P : Program} {w : World} {K : PySem.W.Frag} {mg : Str → Option Value} {base : Heap} {T : List (Addr × Option Str)} {cls : String → Option Value}
/-! ### _law_bent -/
abbrev s_u_law_bent : Stmt := topS 30
theorem sc_u_law_bent : FnScope ["draws", "tasks", "children", "value", "number", "pick_one", "bound", "some", "row", "child"] ["draws", "tasks", "children", "value"] (defScope s_u_law_bent) := ⟨rfl, rfl, rfl, by decide +kernel, rfl, by decide +kernel, by decide +kernel⟩
def b_u_law_bent : M Fl :=
 (thenS (rPar 4 5 (rAc (rC (callD f_u_law_take [true, false]) (rAc (getSl 0) (rAc (rC gLen (rAc (getSl 3) rA0)) rA0))) (rAc (rC (callD f_u_law_take [true, false]) (rAc (getSl 0) (rAc (rI 5) rA0))) rA0)))
 (thenS (rAsg (rO gIx (getSl 3) (getSl 4)) (unT 2 (gsCons (putSl 6) (gsCons (putSl 7) gsNil))))
 (thenS (rIf (rT (rO gLt (getSl 5) (rI 3)))
 (rAsg (rC mkT (rAc (rC gMax (rAc (rI 0) (rAc (rO gAdd (getSl 6) (rO gIx (rC mkL (rAc (rI 1) (rAc (rNeg (rI 1)) (rAc (rNeg (rI 4)) (rAc (rI 2) rA0))))) (rC (callD f_u_law_take [true, false]) (rAc (getSl 0) (rAc (rI 4) rA0))))) rA0))) (rAc (getSl 7) rA0))) (putSl 8))
 (rAsg (rC mkT (rAc (getSl 6) (rAc (rC gTuple (rAc (lcD [9] (rItems (rO gIx (getSl 2) (getSl 4))) (putSl 9) (rT (rO gEq (rC (callD f_u_law_take [true, false]) (rAc (getSl 0) (rAc (rI 2) rA0))) (rI 0))) (getSl 9)) rA0)) rA0))) (putSl 8)))
 (rRet (rO gAdd (rO gAdd (rSlice (getSl 3) rOn (rOs (getSl 4))) (rC mkT (rAc (getSl 8) rA0))) (rSlice (getSl 3) (rOs (rO gAdd (getSl 4) (rI 1))) rOn))))))
def f_u_law_bent : FD := runF 10 (b_u_law_bent)
theorem ok_u_law_bent {fA : Addr} {fd : FuncData} {cd : Value} (D : DefAt K mg "_law_bent" s_u_law_bent fA fd cd) (B : Blt mg) (C_u_law_take : Callee P w K mg base "_law_take" 1 ["draws", "bound"] 2 T cls f_u_law_take) : Callee P w K mg base "_law_bent" 2 ["draws", "tasks", "children", "value"] 4 T cls (f_u_law_bent) :=
  ⟨_, _, D.ok sc_u_law_bent fun A outer s H E G hK hT hc hr => by
    subst hK hT hc
    exact (dss_cons (ds_par (ps_par (i := 4) (j := 5) rfl sc_u_law_bent.nd rfl rfl (by decide) rfl rfl (da_cons (de_callC [true, false] rfl C_u_law_take (hr.mono (by omega)) (by rfl) (takes_of rfl rfl rfl rfl) (da_cons (de_var (pv 0)) (da_cons (de_callB (CallR.or call_len_seq (CallR.or call_lenD call_len_str)) do_len (by rfl) B.b_len bt_len (da_cons (de_var (pv 3)) da_nil)) da_nil)) (lenA_cons (lenA_cons lenA_nil))) (da_cons (de_callC [true, false] rfl C_u_law_take (hr.mono (by omega)) (by rfl) (takes_of rfl rfl rfl rfl) (da_cons (de_var (pv 0)) (da_cons de_int da_nil)) (lenA_cons (lenA_cons lenA_nil))) da_nil)) rfl))
 (dss_cons (ds_asg (de_ix rfl hr (de_var (pv 3)) (de_var (pv 4)) (fun _ _ => rfl)) (dg_tup rfl rfl (dgs_cons (dg_name (pg_name (i := 6) sc_u_law_bent.nd rfl (by first | exact Or.inl rfl | exact Or.inr rfl)) (by intro l h; cases h <;> decide)) (dgs_cons (dg_name (pg_name (i := 7) sc_u_law_bent.nd rfl (by first | exact Or.inl rfl | exact Or.inr rfl)) (by intro l h; cases h <;> decide)) dgs_nil))))
 (dss_cons (ds_if (dt_lt (de_var (pv 5)) de_int)
 (dss_one (ds_set (ps_set (i := 8) sc_u_law_bent.nd rfl (by first | exact Or.inl rfl | exact Or.inr rfl) (de_tup (da_cons (de_callB (CallR.or (call_max2 rfl) (cr_max rfl)) do_max (by rfl) B.b_max bt_max (da_cons de_int (da_cons (de_add rfl (de_var (pv 6)) (de_ix rfl hr (de_lst (da_cons de_int (da_cons (de_neg de_int) (da_cons (de_neg de_int) (da_cons de_int da_nil))))) (de_callC [true, false] rfl C_u_law_take (hr.mono (by omega)) (by rfl) (takes_of rfl rfl rfl rfl) (da_cons (de_var (pv 0)) (da_cons de_int da_nil)) (lenA_cons (lenA_cons lenA_nil))) (fun _ _ => rfl))) da_nil))) (da_cons (de_var (pv 7)) da_nil))))))
 (dss_one (ds_set (ps_set (i := 8) sc_u_law_bent.nd rfl (by first | exact Or.inl rfl | exact Or.inr rfl) (de_tup (da_cons (de_var (pv 6)) (da_cons (de_callTy call_tuple_of do_tuple (by rfl) B.b_tuple bt_tuple (da_cons (de_lc (own := [("child", 9)]) rfl sc_u_law_bent.nd (di_seq rfl (de_ix rfl hr (de_var (pv 2)) (de_var (pv 4)) (fun _ _ => rfl))) (blkOk_by (by rfl)) (fun _ _ _ _ _ => (dg_name (pg_name (i := 9) sc_u_law_bent.nd rfl (by first | exact Or.inl rfl | exact Or.inr rfl)) (by intro l h; cases h <;> decide))) (fun _ _ _ _ _ => (dts_one (dt_eq rfl hr (de_callC [true, false] rfl C_u_law_take (hr.mono (by omega)) (by rfl) LamX.takes0 (da_cons (de_var (pv 0)) (da_cons de_int da_nil)) (lenA_cons (lenA_cons lenA_nil))) de_int))) (fun _ _ _ _ _ => (de_var (pv 9)))) da_nil)) da_nil)))))))
 (dss_one (ds_ret (de_add rfl (de_add rfl (de_slice rfl (de_var (pv 3)) do_none (do_some (de_var (pv 4)))) (de_tup (da_cons (de_var (pv 8)) da_nil))) (de_slice rfl (de_var (pv 3)) (do_some (de_add rfl (de_var (pv 4)) de_int)) do_none))))))),
    D.mg, D.kp, D.binds fun _ _ _ _ _ _ us hl => match us, hl with | [_, _, _, _], _ => rfl, D.lk⟩
end
end Den
namespace Den
open PySem PySem.Spec PyProof.Rows L2
section
variable {P : Program} {w : World} {K : PySem.W.Frag} {mg : Str → Option Value} {base : Heap} {T : List (Addr × Option Str)} {cls : String → Option Value}
/-! ### law -/
abbrev s_law : Stmt := topS 31
theorem sc_law : FnScope ["script", "draws", "tasks", "children", "peaks", "due", "tops", "least", "turn", "value", "step", "good", "said", "row", "odd", "number", "top", "one"] ["script"] (defScope s_law) := ⟨rfl, rfl, rfl, by decide +kernel, rfl, by decide +kernel, by decide +kernel⟩
def b_law : M Fl :=
 (thenS (rAsg (rC (callD f_u_law_draws [false]) (rAc (getSl 0) rA0)) (putSl 1))
 (thenS (setF 2 (rC (callD f_u_law_tasks [true, false, false]) (rAc (getSl 1) (rAc (rI 8) (rAc (rI 15) rA0)))))
 (thenS (setF 3 (rC (callD f_u_law_children [false]) (rAc (getSl 2) rA0)))
 (thenS (rIf (rT (rO gNe (lcD [13] (rItems (getSl 3)) (putSl 13) (rT (rO gGt (rC gLen (rAc (getSl 13) rA0)) (rI 5))) (getSl 13)) (rC mkL rA0)))
 (rRet (rB true))
 (pure .nx))
 (thenS (setF 4 (rC (callD f_u_law_least [false]) (rAc (getSl 2) rA0)))
 (thenS (rAsg (rC gTuple (rAc (lcD [15] (rGo rng1 (rAc (rC gLen (rAc (getSl 2) rA0)) rA0)) (putSl 15) (pure true) (rC mkT (rAc (rO gIx (getSl 4) (getSl 15)) (rAc (rC (callD f_u_law_some [false, false, false, false]) (rAc (getSl 2) (rAc (getSl 4) (rAc (getSl 3) (rAc (getSl 15) rA0))))) rA0)))) rA0)) (putSl 5))
 (thenS (thenFrz 6 (rAsg (lcD [15] (rGo rng1 (rAc (rC gLen (rAc (getSl 2) rA0)) rA0)) (putSl 15) (rT (rO (gIsN false) (rO gIx (rO gIx (getSl 2) (getSl 15)) (rI 0)) rN)) (getSl 15)) (putSl 6)))
 (thenS (rAsg (rC gMax (rAc (rO gAdd (lcD [16] (rItems (getSl 6)) (putSl 16) (pure true) (rO gIx (getSl 4) (getSl 16))) (rC mkL (rAc (rI 0) rA0))) rA0)) (putSl 7))
 (thenS (rIf (orT (rNotT (rT (rC (callD (fr_u_law_alike 6) [false, false]) (rAc (rC (callD f_told_paper [false]) (rAc (getSl 2) rA0)) (rAc (getSl 5) rA0))))) (rNotT (rT (rC (callD f_u_law_right [false, false, false]) (rAc (getSl 2) (rAc (getSl 3) (rAc (getSl 5) rA0)))))))
 (rRet (rB false))
 (pure .nx))
 (thenS (rIf (orT (rT (rO (gIsB true) (rC (callD f_proves_least [false, false, false]) (rAc (getSl 2) (rAc (getSl 7) (rAc (getSl 5) rA0)))) (rB true))) (rT (rO gNe (lcD [17] (rItems (rC mkL (rAc (rO gSub (getSl 7) (rI 1)) (rAc (rO gAdd (getSl 7) (rI 1)) rA0)))) (putSl 17) (rT (rO (gIsB true) (rC (callD f_proves_least [false, false, false]) (rAc (getSl 2) (rAc (getSl 17) (rAc (getSl 5) rA0)))) (rB false))) (getSl 17)) (rC mkL rA0))))
 (rRet (rB false))
 (pure .nx))
 (thenS (rIf (rT (rO gEq (getSl 2) (rC mkT rA0)))
 (rRet (andD (rO (gIsB false) (rC (callD f_is_paper [false, false]) (rAc (rC mkT rA0) (rAc (rC mkT rA0) rA0))) (rB true)) (rO (gIsB false) (rC (callD f_is_paper [false, false]) (rAc (rC mkT rA0) (rAc rN rA0))) (rB false))))
 (pure .nx))
 (thenS (rFor (rGo rng1 (rAc (rI 8) rA0)) (putSl 8)
 (thenS (rAsg (getSl 5) (putSl 9))
 (thenS (rFor (rGo rng1 (rAc (rO gAdd (rI 1) (rC (callD f_u_law_take [true, false]) (rAc (getSl 1) (rAc (rI 3) rA0)))) rA0)) (putSl 10)
 (setF 9 (rC (callD f_u_law_bent [true, false, false, false]) (rAc (getSl 1) (rAc (getSl 2) (rAc (getSl 3) (rAc (getSl 9) rA0)))))))
 (thenS (setF 11 (rC (callD f_u_law_right [false, false, false]) (rAc (getSl 2) (rAc (getSl 3) (rAc (getSl 9) rA0)))))
 (thenS (rAsg (rC gMax (rAc (lcD [16] (rItems (getSl 6)) (putSl 16) (pure true) (rO gIx (rO gIx (getSl 9) (getSl 16)) (rI 0))) rA0)) (putSl 12))
 (thenS (rIf (orT (rNotT (rT (rC (callD (fr_u_law_alike 6) [false, false]) (rAc (rC (callD f_is_paper [false, false]) (rAc (getSl 2) (rAc (getSl 9) rA0))) (rAc (getSl 11) rA0))))) (andT (rT (getSl 11)) (rT (rO gGt (getSl 12) (getSl 7)))))
 (rRet (rB false))
 (pure .nx))
 (rIf (rNotT (rT (rC (callD (fr_u_law_alike 6) [false, false]) (rAc (rC mkL (rAc (rC (callD f_proves_least [false, false, false]) (rAc (getSl 2) (rAc (getSl 12) (rAc (getSl 9) rA0)))) (rAc (rC (callD f_proves_least [false, false, false]) (rAc (getSl 2) (rAc (getSl 7) (rAc (getSl 9) rA0)))) rA0))) (rAc (rC mkL (rAc (getSl 11) (rAc (andD (getSl 11) (rO gEq (getSl 12) (getSl 7))) rA0))) rA0)))))
 (rRet (rB false))
 (pure .nx))))))))
 (thenS (rAsg (rO gIx (getSl 5) (rI 0)) (putSl 13))
 (thenS (setF 14 (rC mkL (rAc rN (rAc (rC gListA (rAc (getSl 5) rA0)) (rAc (rSlice (getSl 5) (rOs (rI 1)) rOn) (rAc (rO gAdd (getSl 5) (rSlice (getSl 5) rOn (rOs (rI 1)))) (rAc (rO gAdd (rC mkT (rAc rN rA0)) (rSlice (getSl 5) (rOs (rI 1)) rOn)) (rAc (rO gAdd (rC mkT (rAc (rSlice (getSl 13) rOn (rOs (rI 1))) rA0)) (rSlice (getSl 5) (rOs (rI 1)) rOn)) (rAc (rO gAdd (rC mkT (rAc (rO gAdd (getSl 13) (rC mkT (rAc (rI 0) rA0))) rA0)) (rSlice (getSl 5) (rOs (rI 1)) rOn)) (rAc (rO gAdd (rC mkT (rAc (rC gListA (rAc (getSl 13) rA0)) rA0)) (rSlice (getSl 5) (rOs (rI 1)) rOn)) rA0))))))))))
 (thenS (rAsg (rO gAdd (getSl 14) (rC mkL (rAc (rO gAdd (rC mkT (rAc (rC mkT (rAc (rNeg (rI 1)) (rAc (rO gIx (getSl 13) (rI 1)) rA0))) rA0)) (rSlice (getSl 5) (rOs (rI 1)) rOn)) (rAc (rO gAdd (rC mkT (rAc (rC mkT (rAc (rB true) (rAc (rO gIx (getSl 13) (rI 1)) rA0))) rA0)) (rSlice (getSl 5) (rOs (rI 1)) rOn)) rA0)))) (putSl 14))
 (thenS (rAsg (rO gAdd (getSl 14) (rC mkL (rAc (rO gAdd (rC mkT (rAc (rC mkT (rAc (rC gStr (rAc (rO gIx (getSl 13) (rI 0)) rA0)) (rAc (rO gIx (getSl 13) (rI 1)) rA0))) rA0)) (rSlice (getSl 5) (rOs (rI 1)) rOn)) (rAc (rO gAdd (rC mkT (rAc (rC mkT (rAc (rO gIx (getSl 13) (rI 0)) (rAc rN rA0))) rA0)) (rSlice (getSl 5) (rOs (rI 1)) rOn)) (rAc (rO gAdd (rC mkT (rAc (rC mkT (rAc (rO gIx (getSl 13) (rI 0)) (rAc (rC gListA (rAc (rO gIx (getSl 13) (rI 1)) rA0)) rA0))) rA0)) (rSlice (getSl 5) (rOs (rI 1)) rOn)) (rAc (rO gAdd (rC mkT (rAc (rC mkT (rAc (rO gIx (getSl 13) (rI 0)) (rAc (rC mkT (rAc (rI 0) rA0)) rA0))) rA0)) (rSlice (getSl 5) (rOs (rI 1)) rOn)) (rAc (rO gAdd (rC mkT (rAc (rC mkT (rAc (rI 0) (rAc (rC mkT (rAc (rC gLen (rAc (getSl 2) rA0)) rA0)) rA0))) rA0)) (rSlice (getSl 5) (rOs (rI 1)) rOn)) rA0))))))) (putSl 14))
 (rRet (rO gEq (lcD [9] (rItems (getSl 14)) (putSl 9) (orT (rT (rO (gIsB true) (rC (callD f_is_paper [false, false]) (rAc (getSl 2) (rAc (getSl 9) rA0))) (rB false))) (rT (rO (gIsB true) (rC (callD f_proves_least [false, false, false]) (rAc (getSl 2) (rAc (getSl 7) (rAc (getSl 9) rA0)))) (rB false)))) (getSl 9)) (rC mkL rA0)))))))))))))))))))
def f_law : FD := runF 18 (b_law)
theorem ok_law {fA : Addr} {fd : FuncData} {cd : Value} (D : DefAt K mg "law" s_law fA fd cd) (B : Blt mg) (C_u_law_draws : Callee P w K mg base "_law_draws" 1 ["script"] 1 T cls f_u_law_draws) (C_u_law_tasks : Callee P w K mg base "_law_tasks" 2 ["draws", "most", "cells"] 3 T cls f_u_law_tasks) (C_u_law_children : Callee P w K mg base "_law_children" 1 ["tasks"] 1 T cls f_u_law_children) (C_u_law_least : Callee P w K mg base "_law_least" 2 ["tasks"] 1 T cls f_u_law_least) (C_u_law_some : Callee P w K mg base "_law_some" 2 ["tasks", "peaks", "children", "number"] 4 T cls f_u_law_some) (C_told_paper : Callee P w K mg base "told_paper" 5 ["tasks"] 1 T cls f_told_paper) (C_u_law_alike : Callee P w K mg base "_law_alike" 7 ["found", "due"] 2 T cls (fr_u_law_alike 6)) (C_u_law_right : Callee P w K mg base "_law_right" 1 ["tasks", "children", "value"] 3 T cls f_u_law_right) (C_proves_least : Callee P w K mg base "proves_least" 5 ["tasks", "peak", "value"] 3 T cls f_proves_least) (C_is_paper : Callee P w K mg base "is_paper" 4 ["tasks", "value"] 2 T cls f_is_paper) (C_u_law_take : Callee P w K mg base "_law_take" 1 ["draws", "bound"] 2 T cls f_u_law_take) (C_u_law_bent : Callee P w K mg base "_law_bent" 2 ["draws", "tasks", "children", "value"] 4 T cls f_u_law_bent) : Callee P w K mg base "law" 8 ["script"] 1 T cls (f_law) :=
  ⟨_, _, D.ok sc_law fun A outer s H E G hK hT hc hr => by
    subst hK hT hc
    exact (dss_cons (ds_set (ps_set (i := 1) sc_law.nd rfl (by first | exact Or.inl rfl | exact Or.inr rfl) (de_callC [false] rfl C_u_law_draws (hr.mono (by omega)) (by rfl) (takes_of rfl rfl rfl rfl) (da_cons (de_var (pv 0)) da_nil) (lenA_cons lenA_nil))))
 (dss_cons (ds_setF (ps_set (i := 2) sc_law.nd rfl (by first | exact Or.inl rfl | exact Or.inr rfl) (de_callC [true, false, false] rfl C_u_law_tasks (hr.mono (by omega)) (by rfl) (takes_of rfl rfl rfl rfl) (da_cons (de_var (pv 1)) (da_cons de_int (da_cons de_int da_nil))) (lenA_cons (lenA_cons (lenA_cons lenA_nil))))))
 (dss_cons (ds_setF (ps_set (i := 3) sc_law.nd rfl (by first | exact Or.inl rfl | exact Or.inr rfl) (de_callC [false] rfl C_u_law_children (hr.mono (by omega)) (by rfl) (takes_of rfl rfl rfl rfl) (da_cons (de_var (pv 2)) da_nil) (lenA_cons lenA_nil))))
 (dss_cons (ds_if (dt_ne rfl hr (de_lc (own := [("row", 13)]) rfl sc_law.nd (di_seq rfl (de_var (pv 3))) (blkOk_by (by rfl)) (fun _ _ _ _ _ => (dg_name (pg_name (i := 13) sc_law.nd rfl (by first | exact Or.inl rfl | exact Or.inr rfl)) (by intro l h; cases h <;> decide))) (fun _ _ _ _ _ => (dts_one (dt_gt (de_callB (CallR.or call_len_seq (CallR.or call_lenD call_len_str)) do_len (by rfl) B.b_len bt_len (da_cons (de_var (pv 13)) da_nil)) de_int))) (fun _ _ _ _ _ => (de_var (pv 13)))) (de_lst da_nil))
 (dss_one (ds_ret de_bl))
 dss_nil)
 (dss_cons (ds_setF (ps_set (i := 4) sc_law.nd rfl (by first | exact Or.inl rfl | exact Or.inr rfl) (de_callC [false] rfl C_u_law_least (hr.mono (by omega)) (by rfl) (takes_of rfl rfl rfl rfl) (da_cons (de_var (pv 2)) da_nil) (lenA_cons lenA_nil))))
 (dss_cons (ds_set (ps_set (i := 5) sc_law.nd rfl (by first | exact Or.inl rfl | exact Or.inr rfl) (de_callTy call_tuple_of do_tuple (by rfl) B.b_tuple bt_tuple (da_cons (de_lc (own := [("number", 15)]) rfl sc_law.nd (di_range1 (by rfl) B.b_range (da_cons (de_callB (CallR.or call_len_seq (CallR.or call_lenD call_len_str)) do_len (by rfl) B.b_len bt_len (da_cons (de_var (pv 2)) da_nil)) da_nil)) (blkOk_by (by rfl)) (fun _ _ _ _ _ => (dg_name (pg_name (i := 15) sc_law.nd rfl (by first | exact Or.inl rfl | exact Or.inr rfl)) (by intro l h; cases h <;> decide))) (fun _ _ _ _ _ => dts_nil) (fun _ _ _ _ _ => (de_tup (da_cons (de_ix rfl hr (de_var (pv 4)) (de_var (pv 15)) (fun _ _ => rfl)) (da_cons (de_callC [false, false, false, false] rfl C_u_law_some (hr.mono (by omega)) (by rfl) LamX.takes0 (da_cons (de_var (pv 2)) (da_cons (de_var (pv 4)) (da_cons (de_var (pv 3)) (da_cons (de_var (pv 15)) da_nil)))) (lenA_cons (lenA_cons (lenA_cons (lenA_cons lenA_nil))))) da_nil))))) da_nil))))
 (dss_cons (ds_frz (i := 6) (ds_setLc (i := 6) (own := [("number", 15)]) rfl sc_law.nd rfl rfl rfl (di_range1 (by rfl) B.b_range (da_cons (de_callB (CallR.or call_len_seq (CallR.or call_lenD call_len_str)) do_len (by rfl) B.b_len bt_len (da_cons (de_var (pv 2)) da_nil)) da_nil)) (blkOk_by (by rfl)) (fun _ _ _ _ _ => (dg_name (pg_name (i := 15) sc_law.nd rfl (by first | exact Or.inl rfl | exact Or.inr rfl)) (by intro l h; cases h <;> decide))) (fun _ _ _ _ _ => (dts_one (dt_isN (by rfl) (de_ix rfl hr (de_ix rfl hr (de_var (pv 2)) (de_var (pv 15)) (fun _ _ => rfl)) de_int (fun _ _ => rfl)) de_non))) (fun _ _ _ _ _ => (de_var (pv 15)))))
 (dss_cons (ds_set (ps_set (i := 7) sc_law.nd rfl (by first | exact Or.inl rfl | exact Or.inr rfl) (de_callB (CallR.or (call_max2 rfl) (cr_max rfl)) do_max (by rfl) B.b_max bt_max (da_cons (de_add rfl (de_lc (own := [("top", 16)]) rfl sc_law.nd (di_seq rfl (de_var (pv 6))) (blkOk_by (by rfl)) (fun _ _ _ _ _ => (dg_name (pg_name (i := 16) sc_law.nd rfl (by first | exact Or.inl rfl | exact Or.inr rfl)) (by intro l h; cases h <;> decide))) (fun _ _ _ _ _ => dts_nil) (fun _ _ _ _ _ => (de_ix rfl hr (de_var (pv 4)) (de_var (pv 16)) (fun _ _ => rfl)))) (de_lst (da_cons de_int da_nil))) da_nil))))
 (dss_cons (ds_if (PW.pt (dw_or (dt_not (dt_val (de_callC [false, false] rfl C_u_law_alike (hr.mono (by omega)) (by rfl) (takes_of rfl rfl rfl rfl) (da_cons (de_callC [false] rfl C_told_paper (hr.mono (by omega)) (by rfl) (takes_of rfl rfl rfl rfl) (da_cons (de_var (pv 2)) da_nil) (lenA_cons lenA_nil)) (da_cons (de_var (pv 5)) da_nil)) (lenA_cons (lenA_cons lenA_nil))))) (pw_or1 (dt_not (dt_val (de_callC [false, false, false] rfl C_u_law_right (hr.mono (by omega)) (by rfl) (takes_of rfl rfl rfl rfl) (da_cons (de_var (pv 2)) (da_cons (de_var (pv 3)) (da_cons (de_var (pv 5)) da_nil))) (lenA_cons (lenA_cons (lenA_cons lenA_nil)))))))))
 (dss_one (ds_ret de_bl))
 dss_nil)
 (dss_cons (ds_if (PW.pt (dw_or (dt_notB (by rfl) (de_callC [false, false, false] rfl C_proves_least (hr.mono (by omega)) (by rfl) (takes_of rfl rfl rfl rfl) (da_cons (de_var (pv 2)) (da_cons (de_var (pv 7)) (da_cons (de_var (pv 5)) da_nil))) (lenA_cons (lenA_cons (lenA_cons lenA_nil)))) de_bl) (pw_or1 (dt_ne rfl hr (de_lc (own := [("one", 17)]) rfl sc_law.nd (di_seq rfl (de_lst (da_cons (de_sub (de_var (pv 7)) de_int) (da_cons (de_add rfl (de_var (pv 7)) de_int) da_nil)))) (blkOk_by (by rfl)) (fun _ _ _ _ _ => (dg_name (pg_name (i := 17) sc_law.nd rfl (by first | exact Or.inl rfl | exact Or.inr rfl)) (by intro l h; cases h <;> decide))) (fun _ _ _ _ _ => (dts_one (dt_notB (by rfl) (de_callC [false, false, false] rfl C_proves_least (hr.mono (by omega)) (by rfl) LamX.takes0 (da_cons (de_var (pv 2)) (da_cons (de_var (pv 17)) (da_cons (de_var (pv 5)) da_nil))) (lenA_cons (lenA_cons (lenA_cons lenA_nil)))) de_bl))) (fun _ _ _ _ _ => (de_var (pv 17)))) (de_lst da_nil)))))
 (dss_one (ds_ret de_bl))
 dss_nil)
 (dss_cons (ds_if (dt_eq rfl hr (de_var (pv 2)) (de_tup da_nil))
 (dss_one (ds_ret (de_and (de_isB (by rfl) (de_callC [false, false] rfl C_is_paper (hr.mono (by omega)) (by rfl) (takes_of rfl rfl rfl rfl) (da_cons (de_tup da_nil) (da_cons (de_tup da_nil) da_nil)) (lenA_cons (lenA_cons lenA_nil))) de_bl) (de_one (de_isB (by rfl) (de_callC [false, false] rfl C_is_paper (hr.mono (by omega)) (by rfl) (takes_of rfl rfl rfl rfl) (da_cons (de_tup da_nil) (da_cons de_non da_nil)) (lenA_cons (lenA_cons lenA_nil))) de_bl)))))
 dss_nil)
 (dss_cons (ds_for (passes_of rfl) rfl (di_range1 (by rfl) B.b_range (da_cons de_int da_nil)) (dg_name (pg_name (i := 8) sc_law.nd rfl (by first | exact Or.inl rfl | exact Or.inr rfl)) (by intro l h; cases h <;> decide))
 (dss_cons (ds_set (ps_set (i := 9) sc_law.nd rfl (by first | exact Or.inl rfl | exact Or.inr rfl) (de_var (pv 5))))
 (dss_cons (ds_for (passes_of rfl) rfl (di_range1 (by rfl) B.b_range (da_cons (de_add rfl de_int (de_callC [true, false] rfl C_u_law_take (hr.mono (by omega)) (by rfl) (takes_of rfl rfl rfl rfl) (da_cons (de_var (pv 1)) (da_cons de_int da_nil)) (lenA_cons (lenA_cons lenA_nil)))) da_nil)) (dg_name (pg_name (i := 10) sc_law.nd rfl (by first | exact Or.inl rfl | exact Or.inr rfl)) (by intro l h; cases h <;> decide))
 (dss_one (ds_setF (ps_set (i := 9) sc_law.nd rfl (by first | exact Or.inl rfl | exact Or.inr rfl) (de_callC [true, false, false, false] rfl C_u_law_bent (hr.mono (by omega)) (by rfl) (takes_of rfl rfl rfl rfl) (da_cons (de_var (pv 1)) (da_cons (de_var (pv 2)) (da_cons (de_var (pv 3)) (da_cons (de_var (pv 9)) da_nil)))) (lenA_cons (lenA_cons (lenA_cons (lenA_cons lenA_nil)))))))))
 (dss_cons (ds_setF (ps_set (i := 11) sc_law.nd rfl (by first | exact Or.inl rfl | exact Or.inr rfl) (de_callC [false, false, false] rfl C_u_law_right (hr.mono (by omega)) (by rfl) (takes_of rfl rfl rfl rfl) (da_cons (de_var (pv 2)) (da_cons (de_var (pv 3)) (da_cons (de_var (pv 9)) da_nil))) (lenA_cons (lenA_cons (lenA_cons lenA_nil))))))
 (dss_cons (ds_set (ps_set (i := 12) sc_law.nd rfl (by first | exact Or.inl rfl | exact Or.inr rfl) (de_callB (CallR.or (call_max2 rfl) (cr_max rfl)) do_max (by rfl) B.b_max bt_max (da_cons (de_lc (own := [("top", 16)]) rfl sc_law.nd (di_seq rfl (de_var (pv 6))) (blkOk_by (by rfl)) (fun _ _ _ _ _ => (dg_name (pg_name (i := 16) sc_law.nd rfl (by first | exact Or.inl rfl | exact Or.inr rfl)) (by intro l h; cases h <;> decide))) (fun _ _ _ _ _ => dts_nil) (fun _ _ _ _ _ => (de_ix rfl hr (de_ix rfl hr (de_var (pv 9)) (de_var (pv 16)) (fun _ _ => rfl)) de_int (fun _ _ => rfl)))) da_nil))))
 (dss_cons (ds_if (PW.pt (dw_or (dt_not (dt_val (de_callC [false, false] rfl C_u_law_alike (hr.mono (by omega)) (by rfl) (takes_of rfl rfl rfl rfl) (da_cons (de_callC [false, false] rfl C_is_paper (hr.mono (by omega)) (by rfl) (takes_of rfl rfl rfl rfl) (da_cons (de_var (pv 2)) (da_cons (de_var (pv 9)) da_nil)) (lenA_cons (lenA_cons lenA_nil))) (da_cons (de_var (pv 11)) da_nil)) (lenA_cons (lenA_cons lenA_nil))))) (pw_or1 (PW.pt (dw_and (dt_val (de_var (pv 11))) (pw_and1 (dt_gt (de_var (pv 12)) (de_var (pv 7)))))))))
 (dss_one (ds_ret de_bl))
 dss_nil)
 (dss_one (ds_if (dt_not (dt_val (de_callC [false, false] rfl C_u_law_alike (hr.mono (by omega)) (by rfl) (takes_of rfl rfl rfl rfl) (da_cons (de_lst (da_cons (de_callC [false, false, false] rfl C_proves_least (hr.mono (by omega)) (by rfl) (takes_of rfl rfl rfl rfl) (da_cons (de_var (pv 2)) (da_cons (de_var (pv 12)) (da_cons (de_var (pv 9)) da_nil))) (lenA_cons (lenA_cons (lenA_cons lenA_nil)))) (da_cons (de_callC [false, false, false] rfl C_proves_least (hr.mono (by omega)) (by rfl) (takes_of rfl rfl rfl rfl) (da_cons (de_var (pv 2)) (da_cons (de_var (pv 7)) (da_cons (de_var (pv 9)) da_nil))) (lenA_cons (lenA_cons (lenA_cons lenA_nil)))) da_nil))) (da_cons (de_lst (da_cons (de_var (pv 11)) (da_cons (de_and (de_var (pv 11)) (de_one (de_eq rfl hr (de_var (pv 12)) (de_var (pv 7))))) da_nil))) da_nil)) (lenA_cons (lenA_cons lenA_nil)))))
 (dss_one (ds_ret de_bl))
 dss_nil))))))))
 (dss_cons (ds_set (ps_set (i := 13) sc_law.nd rfl (by first | exact Or.inl rfl | exact Or.inr rfl) (de_ix rfl hr (de_var (pv 5)) de_int (fun _ _ => rfl))))
 (dss_cons (ds_setF (ps_set (i := 14) sc_law.nd rfl (by first | exact Or.inl rfl | exact Or.inr rfl) (de_lst (da_cons de_non (da_cons (de_callTy (CallR.or call_list_of (call_listD rfl)) do_listA (by rfl) B.b_list bt_list (da_cons (de_var (pv 5)) da_nil)) (da_cons (de_slice rfl (de_var (pv 5)) (do_some de_int) do_none) (da_cons (de_add rfl (de_var (pv 5)) (de_slice rfl (de_var (pv 5)) do_none (do_some de_int))) (da_cons (de_add rfl (de_tup (da_cons de_non da_nil)) (de_slice rfl (de_var (pv 5)) (do_some de_int) do_none)) (da_cons (de_add rfl (de_tup (da_cons (de_slice rfl (de_var (pv 13)) do_none (do_some de_int)) da_nil)) (de_slice rfl (de_var (pv 5)) (do_some de_int) do_none)) (da_cons (de_add rfl (de_tup (da_cons (de_add rfl (de_var (pv 13)) (de_tup (da_cons de_int da_nil))) da_nil)) (de_slice rfl (de_var (pv 5)) (do_some de_int) do_none)) (da_cons (de_add rfl (de_tup (da_cons (de_callTy (CallR.or call_list_of (call_listD rfl)) do_listA (by rfl) B.b_list bt_list (da_cons (de_var (pv 13)) da_nil)) da_nil)) (de_slice rfl (de_var (pv 5)) (do_some de_int) do_none)) da_nil)))))))))))
 (dss_cons (ds_set (ps_set (i := 14) sc_law.nd rfl (by first | exact Or.inl rfl | exact Or.inr rfl) (de_add rfl (de_var (pv 14)) (de_lst (da_cons (de_add rfl (de_tup (da_cons (de_tup (da_cons (de_neg de_int) (da_cons (de_ix rfl hr (de_var (pv 13)) de_int (fun _ _ => rfl)) da_nil))) da_nil)) (de_slice rfl (de_var (pv 5)) (do_some de_int) do_none)) (da_cons (de_add rfl (de_tup (da_cons (de_tup (da_cons de_bl (da_cons (de_ix rfl hr (de_var (pv 13)) de_int (fun _ _ => rfl)) da_nil))) da_nil)) (de_slice rfl (de_var (pv 5)) (do_some de_int) do_none)) da_nil))))))
 (dss_cons (ds_set (ps_set (i := 14) sc_law.nd rfl (by first | exact Or.inl rfl | exact Or.inr rfl) (de_add rfl (de_var (pv 14)) (de_lst (da_cons (de_add rfl (de_tup (da_cons (de_tup (da_cons (de_callTy call_str_int do_str (by rfl) B.b_str bt_str (da_cons (de_ix rfl hr (de_var (pv 13)) de_int (fun _ _ => rfl)) da_nil)) (da_cons (de_ix rfl hr (de_var (pv 13)) de_int (fun _ _ => rfl)) da_nil))) da_nil)) (de_slice rfl (de_var (pv 5)) (do_some de_int) do_none)) (da_cons (de_add rfl (de_tup (da_cons (de_tup (da_cons (de_ix rfl hr (de_var (pv 13)) de_int (fun _ _ => rfl)) (da_cons de_non da_nil))) da_nil)) (de_slice rfl (de_var (pv 5)) (do_some de_int) do_none)) (da_cons (de_add rfl (de_tup (da_cons (de_tup (da_cons (de_ix rfl hr (de_var (pv 13)) de_int (fun _ _ => rfl)) (da_cons (de_callTy (CallR.or call_list_of (call_listD rfl)) do_listA (by rfl) B.b_list bt_list (da_cons (de_ix rfl hr (de_var (pv 13)) de_int (fun _ _ => rfl)) da_nil)) da_nil))) da_nil)) (de_slice rfl (de_var (pv 5)) (do_some de_int) do_none)) (da_cons (de_add rfl (de_tup (da_cons (de_tup (da_cons (de_ix rfl hr (de_var (pv 13)) de_int (fun _ _ => rfl)) (da_cons (de_tup (da_cons de_int da_nil)) da_nil))) da_nil)) (de_slice rfl (de_var (pv 5)) (do_some de_int) do_none)) (da_cons (de_add rfl (de_tup (da_cons (de_tup (da_cons de_int (da_cons (de_tup (da_cons (de_callB (CallR.or call_len_seq (CallR.or call_lenD call_len_str)) do_len (by rfl) B.b_len bt_len (da_cons (de_var (pv 2)) da_nil)) da_nil)) da_nil))) da_nil)) (de_slice rfl (de_var (pv 5)) (do_some de_int) do_none)) da_nil)))))))))
 (dss_one (ds_ret (de_eq rfl hr (de_lc (own := [("value", 9)]) rfl sc_law.nd (di_seq rfl (de_var (pv 14))) (blkOk_by (by rfl)) (fun _ _ _ _ _ => (dg_name (pg_name (i := 9) sc_law.nd rfl (by first | exact Or.inl rfl | exact Or.inr rfl)) (by intro l h; cases h <;> decide))) (fun _ _ _ _ _ => (dts_one (PW.pt (dw_or (dt_notB (by rfl) (de_callC [false, false] rfl C_is_paper (hr.mono (by omega)) (by rfl) LamX.takes0 (da_cons (de_var (pv 2)) (da_cons (de_var (pv 9)) da_nil)) (lenA_cons (lenA_cons lenA_nil))) de_bl) (pw_or1 (dt_notB (by rfl) (de_callC [false, false, false] rfl C_proves_least (hr.mono (by omega)) (by rfl) LamX.takes0 (da_cons (de_var (pv 2)) (da_cons (de_var (pv 7)) (da_cons (de_var (pv 9)) da_nil))) (lenA_cons (lenA_cons (lenA_cons lenA_nil)))) de_bl)))))) (fun _ _ _ _ _ => (de_var (pv 9)))) (de_lst da_nil)))))))))))))))))))),
    D.mg, D.kp, D.binds fun _ _ _ _ _ _ us hl => match us, hl with | [_], _ => rfl, D.lk⟩
end
end Den
namespace Den
open PySem PySem.Spec PyProof.Rows L2
theorem all_mk {l : PySem.W.OpenLaw} {w : World} {K : PySem.W.Frag} {h : Heap} {mg mb : Str → Option Value} {fa : Addr} {q : Program} {lo : List Str} {mean : ExcName → Option Value} (X : K.In h) (G : h.Ns mainGlobals mg) (Tp : Top q lo mean mg mb h) (hfa : mg "law" = some (.ref fa))
    (v_MOST_BOUND : ∃ t, mg "MOST_BOUND" = some (.int 61000000 t))
    {tk_MOST_TASKS : Tok} (m_MOST_TASKS : PySem.W.nsIn K mainGlobals "MOST_TASKS" = some (some (.int 60 tk_MOST_TASKS)))
    {tk_MOST_CELLS : Tok} (m_MOST_CELLS : PySem.W.nsIn K mainGlobals "MOST_CELLS" = some (some (.int 1000000 tk_MOST_CELLS)))
    {cc_in_turn P_in_turn : Addr} {dr_in_turn : DefRec} (t_in_turn : PySem.W.tabIn K "in_turn" = some (cc_in_turn, P_in_turn)) (r_in_turn : (recsOf q).find? (fun e => e.name == ("in_turn" : Str)) = some dr_in_turn) (n_in_turn : K.lookup P_in_turn = none)
    {cc_are_some P_are_some : Addr} {dr_are_some : DefRec} (t_are_some : PySem.W.tabIn K "are_some" = some (cc_are_some, P_are_some)) (r_are_some : (recsOf q).find? (fun e => e.name == ("are_some" : Str)) = some dr_are_some) (n_are_some : K.lookup P_are_some = none)
    {cc_is_paper P_is_paper : Addr} {dr_is_paper : DefRec} (t_is_paper : PySem.W.tabIn K "is_paper" = some (cc_is_paper, P_is_paper)) (r_is_paper : (recsOf q).find? (fun e => e.name == ("is_paper" : Str)) = some dr_is_paper) (n_is_paper : K.lookup P_is_paper = none)
    (nd : [P_in_turn, P_are_some, P_is_paper].Nodup)
    {f_ais_number : Addr} {od_is_number an_is_number : Option Addr} {sl_is_number : Array (Option Value)} {oc_is_number kV_is_number dc_is_number pm_is_number cd_is_number ct_is_number : Value} (a_is_number : PySem.W.nsIn K mainGlobals "is_number" = some (some (.ref f_ais_number))) (l_is_number : K.lookup f_ais_number = some ⟨oc_is_number, od_is_number, .func (PySem.W.fnOf "is_number" "is_number" (defArgs s_is_number) (defBody s_is_number) (defScope s_is_number) .none kV_is_number dc_is_number pm_is_number an_is_number cd_is_number ct_is_number), sl_is_number⟩) (c_is_number : PySem.W.codeIn K cd_is_number "is_number" = true) (k_is_number : PySem.W.keepIn K (.ref f_ais_number) = true)
    {f_achildren_in : Addr} {od_children_in an_children_in : Option Addr} {sl_children_in : Array (Option Value)} {oc_children_in kV_children_in dc_children_in pm_children_in cd_children_in ct_children_in : Value} (a_children_in : PySem.W.nsIn K mainGlobals "children_in" = some (some (.ref f_achildren_in))) (l_children_in : K.lookup f_achildren_in = some ⟨oc_children_in, od_children_in, .func (PySem.W.fnOf "children_in" "children_in" (defArgs s_children_in) (defBody s_children_in) (defScope s_children_in) .none kV_children_in dc_children_in pm_children_in an_children_in cd_children_in ct_children_in), sl_children_in⟩) (c_children_in : PySem.W.codeIn K cd_children_in "children_in" = true) (k_children_in : PySem.W.keepIn K (.ref f_achildren_in) = true)
    {f_atops_in : Addr} {od_tops_in an_tops_in : Option Addr} {sl_tops_in : Array (Option Value)} {oc_tops_in kV_tops_in dc_tops_in pm_tops_in cd_tops_in ct_tops_in : Value} (a_tops_in : PySem.W.nsIn K mainGlobals "tops_in" = some (some (.ref f_atops_in))) (l_tops_in : K.lookup f_atops_in = some ⟨oc_tops_in, od_tops_in, .func (PySem.W.fnOf "tops_in" "tops_in" (defArgs s_tops_in) (defBody s_tops_in) (defScope s_tops_in) .none kV_tops_in dc_tops_in pm_tops_in an_tops_in cd_tops_in ct_tops_in), sl_tops_in⟩) (c_tops_in : PySem.W.codeIn K cd_tops_in "tops_in" = true) (k_tops_in : PySem.W.keepIn K (.ref f_atops_in) = true)
    {f_ain_turn : Addr} {od_in_turn an_in_turn : Option Addr} {sl_in_turn : Array (Option Value)} {oc_in_turn kV_in_turn dc_in_turn pm_in_turn  ct_in_turn : Value} (a_in_turn : PySem.W.nsIn K mainGlobals "in_turn" = some (some (.ref f_ain_turn))) (l_in_turn : K.lookup f_ain_turn = some ⟨oc_in_turn, od_in_turn, .func (PySem.W.fnOf "in_turn" "in_turn" (defArgs s_in_turn) (defBody s_in_turn) (defScope s_in_turn) .none kV_in_turn dc_in_turn pm_in_turn an_in_turn (.ref cc_in_turn) ct_in_turn), sl_in_turn⟩) (c_in_turn : PySem.W.codeIn K (.ref cc_in_turn) "in_turn" = true) (k_in_turn : PySem.W.keepIn K (.ref f_ain_turn) = true)
    {f_aleast_peaks : Addr} {od_least_peaks an_least_peaks : Option Addr} {sl_least_peaks : Array (Option Value)} {oc_least_peaks kV_least_peaks dc_least_peaks pm_least_peaks cd_least_peaks ct_least_peaks : Value} (a_least_peaks : PySem.W.nsIn K mainGlobals "least_peaks" = some (some (.ref f_aleast_peaks))) (l_least_peaks : K.lookup f_aleast_peaks = some ⟨oc_least_peaks, od_least_peaks, .func (PySem.W.fnOf "least_peaks" "least_peaks" (defArgs s_least_peaks) (defBody s_least_peaks) (defScope s_least_peaks) .none kV_least_peaks dc_least_peaks pm_least_peaks an_least_peaks cd_least_peaks ct_least_peaks), sl_least_peaks⟩) (c_least_peaks : PySem.W.codeIn K cd_least_peaks "least_peaks" = true) (k_least_peaks : PySem.W.keepIn K (.ref f_aleast_peaks) = true)
    {f_alast_bound : Addr} {od_last_bound an_last_bound : Option Addr} {sl_last_bound : Array (Option Value)} {oc_last_bound kV_last_bound dc_last_bound pm_last_bound cd_last_bound ct_last_bound : Value} (a_last_bound : PySem.W.nsIn K mainGlobals "last_bound" = some (some (.ref f_alast_bound))) (l_last_bound : K.lookup f_alast_bound = some ⟨oc_last_bound, od_last_bound, .func (PySem.W.fnOf "last_bound" "last_bound" (defArgs s_last_bound) (defBody s_last_bound) (defScope s_last_bound) .none kV_last_bound dc_last_bound pm_last_bound an_last_bound cd_last_bound ct_last_bound), sl_last_bound⟩) (c_last_bound : PySem.W.codeIn K cd_last_bound "last_bound" = true) (k_last_bound : PySem.W.keepIn K (.ref f_alast_bound) = true)
    {f_atold_some : Addr} {od_told_some an_told_some : Option Addr} {sl_told_some : Array (Option Value)} {oc_told_some kV_told_some dc_told_some pm_told_some cd_told_some ct_told_some : Value} (a_told_some : PySem.W.nsIn K mainGlobals "told_some" = some (some (.ref f_atold_some))) (l_told_some : K.lookup f_atold_some = some ⟨oc_told_some, od_told_some, .func (PySem.W.fnOf "told_some" "told_some" (defArgs s_told_some) (defBody s_told_some) (defScope s_told_some) .none kV_told_some dc_told_some pm_told_some an_told_some cd_told_some ct_told_some), sl_told_some⟩) (c_told_some : PySem.W.codeIn K cd_told_some "told_some" = true) (k_told_some : PySem.W.keepIn K (.ref f_atold_some) = true)
    {f_atold_paper : Addr} {od_told_paper an_told_paper : Option Addr} {sl_told_paper : Array (Option Value)} {oc_told_paper kV_told_paper dc_told_paper pm_told_paper cd_told_paper ct_told_paper : Value} (a_told_paper : PySem.W.nsIn K mainGlobals "told_paper" = some (some (.ref f_atold_paper))) (l_told_paper : K.lookup f_atold_paper = some ⟨oc_told_paper, od_told_paper, .func (PySem.W.fnOf "told_paper" "told_paper" (defArgs s_told_paper) (defBody s_told_paper) (defScope s_told_paper) .none kV_told_paper dc_told_paper pm_told_paper an_told_paper cd_told_paper ct_told_paper), sl_told_paper⟩) (c_told_paper : PySem.W.codeIn K cd_told_paper "told_paper" = true) (k_told_paper : PySem.W.keepIn K (.ref f_atold_paper) = true)
    {f_ais_shown : Addr} {od_is_shown an_is_shown : Option Addr} {sl_is_shown : Array (Option Value)} {oc_is_shown kV_is_shown dc_is_shown pm_is_shown cd_is_shown ct_is_shown : Value} (a_is_shown : PySem.W.nsIn K mainGlobals "is_shown" = some (some (.ref f_ais_shown))) (l_is_shown : K.lookup f_ais_shown = some ⟨oc_is_shown, od_is_shown, .func (PySem.W.fnOf "is_shown" "is_shown" (defArgs s_is_shown) (defBody s_is_shown) (defScope s_is_shown) .none kV_is_shown dc_is_shown pm_is_shown an_is_shown cd_is_shown ct_is_shown), sl_is_shown⟩) (c_is_shown : PySem.W.codeIn K cd_is_shown "is_shown" = true) (k_is_shown : PySem.W.keepIn K (.ref f_ais_shown) = true)
    {f_aare_some : Addr} {od_are_some an_are_some : Option Addr} {sl_are_some : Array (Option Value)} {oc_are_some kV_are_some dc_are_some pm_are_some  ct_are_some : Value} (a_are_some : PySem.W.nsIn K mainGlobals "are_some" = some (some (.ref f_aare_some))) (l_are_some : K.lookup f_aare_some = some ⟨oc_are_some, od_are_some, .func (PySem.W.fnOf "are_some" "are_some" (defArgs s_are_some) (defBody s_are_some) (defScope s_are_some) .none kV_are_some dc_are_some pm_are_some an_are_some (.ref cc_are_some) ct_are_some), sl_are_some⟩) (c_are_some : PySem.W.codeIn K (.ref cc_are_some) "are_some" = true) (k_are_some : PySem.W.keepIn K (.ref f_aare_some) = true)
    {f_ais_paper : Addr} {od_is_paper an_is_paper : Option Addr} {sl_is_paper : Array (Option Value)} {oc_is_paper kV_is_paper dc_is_paper pm_is_paper  ct_is_paper : Value} (a_is_paper : PySem.W.nsIn K mainGlobals "is_paper" = some (some (.ref f_ais_paper))) (l_is_paper : K.lookup f_ais_paper = some ⟨oc_is_paper, od_is_paper, .func (PySem.W.fnOf "is_paper" "is_paper" (defArgs s_is_paper) (defBody s_is_paper) (defScope s_is_paper) .none kV_is_paper dc_is_paper pm_is_paper an_is_paper (.ref cc_is_paper) ct_is_paper), sl_is_paper⟩) (c_is_paper : PySem.W.codeIn K (.ref cc_is_paper) "is_paper" = true) (k_is_paper : PySem.W.keepIn K (.ref f_ais_paper) = true)
    {f_aproves_least : Addr} {od_proves_least an_proves_least : Option Addr} {sl_proves_least : Array (Option Value)} {oc_proves_least kV_proves_least dc_proves_least pm_proves_least cd_proves_least ct_proves_least : Value} (a_proves_least : PySem.W.nsIn K mainGlobals "proves_least" = some (some (.ref f_aproves_least))) (l_proves_least : K.lookup f_aproves_least = some ⟨oc_proves_least, od_proves_least, .func (PySem.W.fnOf "proves_least" "proves_least" (defArgs s_proves_least) (defBody s_proves_least) (defScope s_proves_least) .none kV_proves_least dc_proves_least pm_proves_least an_proves_least cd_proves_least ct_proves_least), sl_proves_least⟩) (c_proves_least : PySem.W.codeIn K cd_proves_least "proves_least" = true) (k_proves_least : PySem.W.keepIn K (.ref f_aproves_least) = true)
    {f_au_law_draws : Addr} {od_u_law_draws an_u_law_draws : Option Addr} {sl_u_law_draws : Array (Option Value)} {oc_u_law_draws kV_u_law_draws dc_u_law_draws pm_u_law_draws cd_u_law_draws ct_u_law_draws : Value} (a_u_law_draws : PySem.W.nsIn K mainGlobals "_law_draws" = some (some (.ref f_au_law_draws))) (l_u_law_draws : K.lookup f_au_law_draws = some ⟨oc_u_law_draws, od_u_law_draws, .func (PySem.W.fnOf "_law_draws" "_law_draws" (defArgs s_u_law_draws) (defBody s_u_law_draws) (defScope s_u_law_draws) .none kV_u_law_draws dc_u_law_draws pm_u_law_draws an_u_law_draws cd_u_law_draws ct_u_law_draws), sl_u_law_draws⟩) (c_u_law_draws : PySem.W.codeIn K cd_u_law_draws "_law_draws" = true) (k_u_law_draws : PySem.W.keepIn K (.ref f_au_law_draws) = true)
    {f_au_law_take : Addr} {od_u_law_take an_u_law_take : Option Addr} {sl_u_law_take : Array (Option Value)} {oc_u_law_take kV_u_law_take dc_u_law_take pm_u_law_take cd_u_law_take ct_u_law_take : Value} (a_u_law_take : PySem.W.nsIn K mainGlobals "_law_take" = some (some (.ref f_au_law_take))) (l_u_law_take : K.lookup f_au_law_take = some ⟨oc_u_law_take, od_u_law_take, .func (PySem.W.fnOf "_law_take" "_law_take" (defArgs s_u_law_take) (defBody s_u_law_take) (defScope s_u_law_take) .none kV_u_law_take dc_u_law_take pm_u_law_take an_u_law_take cd_u_law_take ct_u_law_take), sl_u_law_take⟩) (c_u_law_take : PySem.W.codeIn K cd_u_law_take "_law_take" = true) (k_u_law_take : PySem.W.keepIn K (.ref f_au_law_take) = true)
    {f_au_law_alike : Addr} {od_u_law_alike an_u_law_alike : Option Addr} {sl_u_law_alike : Array (Option Value)} {oc_u_law_alike kV_u_law_alike dc_u_law_alike pm_u_law_alike cd_u_law_alike ct_u_law_alike : Value} (a_u_law_alike : PySem.W.nsIn K mainGlobals "_law_alike" = some (some (.ref f_au_law_alike))) (l_u_law_alike : K.lookup f_au_law_alike = some ⟨oc_u_law_alike, od_u_law_alike, .func (PySem.W.fnOf "_law_alike" "_law_alike" (defArgs s_u_law_alike) (defBody s_u_law_alike) (defScope s_u_law_alike) .none kV_u_law_alike dc_u_law_alike pm_u_law_alike an_u_law_alike cd_u_law_alike ct_u_law_alike), sl_u_law_alike⟩) (c_u_law_alike : PySem.W.codeIn K cd_u_law_alike "_law_alike" = true) (k_u_law_alike : PySem.W.keepIn K (.ref f_au_law_alike) = true)
    {f_au_law_tasks : Addr} {od_u_law_tasks an_u_law_tasks : Option Addr} {sl_u_law_tasks : Array (Option Value)} {oc_u_law_tasks kV_u_law_tasks dc_u_law_tasks pm_u_law_tasks cd_u_law_tasks ct_u_law_tasks : Value} (a_u_law_tasks : PySem.W.nsIn K mainGlobals "_law_tasks" = some (some (.ref f_au_law_tasks))) (l_u_law_tasks : K.lookup f_au_law_tasks = some ⟨oc_u_law_tasks, od_u_law_tasks, .func (PySem.W.fnOf "_law_tasks" "_law_tasks" (defArgs s_u_law_tasks) (defBody s_u_law_tasks) (defScope s_u_law_tasks) .none kV_u_law_tasks dc_u_law_tasks pm_u_law_tasks an_u_law_tasks cd_u_law_tasks ct_u_law_tasks), sl_u_law_tasks⟩) (c_u_law_tasks : PySem.W.codeIn K cd_u_law_tasks "_law_tasks" = true) (k_u_law_tasks : PySem.W.keepIn K (.ref f_au_law_tasks) = true)
    {f_au_law_children : Addr} {od_u_law_children an_u_law_children : Option Addr} {sl_u_law_children : Array (Option Value)} {oc_u_law_children kV_u_law_children dc_u_law_children pm_u_law_children cd_u_law_children ct_u_law_children : Value} (a_u_law_children : PySem.W.nsIn K mainGlobals "_law_children" = some (some (.ref f_au_law_children))) (l_u_law_children : K.lookup f_au_law_children = some ⟨oc_u_law_children, od_u_law_children, .func (PySem.W.fnOf "_law_children" "_law_children" (defArgs s_u_law_children) (defBody s_u_law_children) (defScope s_u_law_children) .none kV_u_law_children dc_u_law_children pm_u_law_children an_u_law_children cd_u_law_children ct_u_law_children), sl_u_law_children⟩) (c_u_law_children : PySem.W.codeIn K cd_u_law_children "_law_children" = true) (k_u_law_children : PySem.W.keepIn K (.ref f_au_law_children) = true)
    {f_au_law_joined : Addr} {od_u_law_joined an_u_law_joined : Option Addr} {sl_u_law_joined : Array (Option Value)} {oc_u_law_joined kV_u_law_joined dc_u_law_joined pm_u_law_joined cd_u_law_joined ct_u_law_joined : Value} (a_u_law_joined : PySem.W.nsIn K mainGlobals "_law_joined" = some (some (.ref f_au_law_joined))) (l_u_law_joined : K.lookup f_au_law_joined = some ⟨oc_u_law_joined, od_u_law_joined, .func (PySem.W.fnOf "_law_joined" "_law_joined" (defArgs s_u_law_joined) (defBody s_u_law_joined) (defScope s_u_law_joined) .none kV_u_law_joined dc_u_law_joined pm_u_law_joined an_u_law_joined cd_u_law_joined ct_u_law_joined), sl_u_law_joined⟩) (c_u_law_joined : PySem.W.codeIn K cd_u_law_joined "_law_joined" = true) (k_u_law_joined : PySem.W.keepIn K (.ref f_au_law_joined) = true)
    {f_au_law_least : Addr} {od_u_law_least an_u_law_least : Option Addr} {sl_u_law_least : Array (Option Value)} {oc_u_law_least kV_u_law_least dc_u_law_least pm_u_law_least cd_u_law_least ct_u_law_least : Value} (a_u_law_least : PySem.W.nsIn K mainGlobals "_law_least" = some (some (.ref f_au_law_least))) (l_u_law_least : K.lookup f_au_law_least = some ⟨oc_u_law_least, od_u_law_least, .func (PySem.W.fnOf "_law_least" "_law_least" (defArgs s_u_law_least) (defBody s_u_law_least) (defScope s_u_law_least) .none kV_u_law_least dc_u_law_least pm_u_law_least an_u_law_least cd_u_law_least ct_u_law_least), sl_u_law_least⟩) (c_u_law_least : PySem.W.codeIn K cd_u_law_least "_law_least" = true) (k_u_law_least : PySem.W.keepIn K (.ref f_au_law_least) = true)
    {f_au_law_turn : Addr} {od_u_law_turn an_u_law_turn : Option Addr} {sl_u_law_turn : Array (Option Value)} {oc_u_law_turn kV_u_law_turn dc_u_law_turn pm_u_law_turn cd_u_law_turn ct_u_law_turn : Value} (a_u_law_turn : PySem.W.nsIn K mainGlobals "_law_turn" = some (some (.ref f_au_law_turn))) (l_u_law_turn : K.lookup f_au_law_turn = some ⟨oc_u_law_turn, od_u_law_turn, .func (PySem.W.fnOf "_law_turn" "_law_turn" (defArgs s_u_law_turn) (defBody s_u_law_turn) (defScope s_u_law_turn) .none kV_u_law_turn dc_u_law_turn pm_u_law_turn an_u_law_turn cd_u_law_turn ct_u_law_turn), sl_u_law_turn⟩) (c_u_law_turn : PySem.W.codeIn K cd_u_law_turn "_law_turn" = true) (k_u_law_turn : PySem.W.keepIn K (.ref f_au_law_turn) = true)
    {f_au_law_some : Addr} {od_u_law_some an_u_law_some : Option Addr} {sl_u_law_some : Array (Option Value)} {oc_u_law_some kV_u_law_some dc_u_law_some pm_u_law_some cd_u_law_some ct_u_law_some : Value} (a_u_law_some : PySem.W.nsIn K mainGlobals "_law_some" = some (some (.ref f_au_law_some))) (l_u_law_some : K.lookup f_au_law_some = some ⟨oc_u_law_some, od_u_law_some, .func (PySem.W.fnOf "_law_some" "_law_some" (defArgs s_u_law_some) (defBody s_u_law_some) (defScope s_u_law_some) .none kV_u_law_some dc_u_law_some pm_u_law_some an_u_law_some cd_u_law_some ct_u_law_some), sl_u_law_some⟩) (c_u_law_some : PySem.W.codeIn K cd_u_law_some "_law_some" = true) (k_u_law_some : PySem.W.keepIn K (.ref f_au_law_some) = true)
    {f_au_law_right : Addr} {od_u_law_right an_u_law_right : Option Addr} {sl_u_law_right : Array (Option Value)} {oc_u_law_right kV_u_law_right dc_u_law_right pm_u_law_right cd_u_law_right ct_u_law_right : Value} (a_u_law_right : PySem.W.nsIn K mainGlobals "_law_right" = some (some (.ref f_au_law_right))) (l_u_law_right : K.lookup f_au_law_right = some ⟨oc_u_law_right, od_u_law_right, .func (PySem.W.fnOf "_law_right" "_law_right" (defArgs s_u_law_right) (defBody s_u_law_right) (defScope s_u_law_right) .none kV_u_law_right dc_u_law_right pm_u_law_right an_u_law_right cd_u_law_right ct_u_law_right), sl_u_law_right⟩) (c_u_law_right : PySem.W.codeIn K cd_u_law_right "_law_right" = true) (k_u_law_right : PySem.W.keepIn K (.ref f_au_law_right) = true)
    {f_au_law_bent : Addr} {od_u_law_bent an_u_law_bent : Option Addr} {sl_u_law_bent : Array (Option Value)} {oc_u_law_bent kV_u_law_bent dc_u_law_bent pm_u_law_bent cd_u_law_bent ct_u_law_bent : Value} (a_u_law_bent : PySem.W.nsIn K mainGlobals "_law_bent" = some (some (.ref f_au_law_bent))) (l_u_law_bent : K.lookup f_au_law_bent = some ⟨oc_u_law_bent, od_u_law_bent, .func (PySem.W.fnOf "_law_bent" "_law_bent" (defArgs s_u_law_bent) (defBody s_u_law_bent) (defScope s_u_law_bent) .none kV_u_law_bent dc_u_law_bent pm_u_law_bent an_u_law_bent cd_u_law_bent ct_u_law_bent), sl_u_law_bent⟩) (c_u_law_bent : PySem.W.codeIn K cd_u_law_bent "_law_bent" = true) (k_u_law_bent : PySem.W.keepIn K (.ref f_au_law_bent) = true)
    {f_alaw : Addr} {od_law an_law : Option Addr} {sl_law : Array (Option Value)} {oc_law kV_law dc_law pm_law cd_law ct_law : Value} (a_law : PySem.W.nsIn K mainGlobals "law" = some (some (.ref f_alaw))) (l_law : K.lookup f_alaw = some ⟨oc_law, od_law, .func (PySem.W.fnOf "law" "law" (defArgs s_law) (defBody s_law) (defScope s_law) .none kV_law dc_law pm_law an_law cd_law ct_law), sl_law⟩) (c_law : PySem.W.codeIn K cd_law "law" = true) (k_law : PySem.W.keepIn K (.ref f_alaw) = true)
    (z_abs : PySem.W.nsIn K mainGlobals "abs" = some none)
    (z_all : PySem.W.nsIn K mainGlobals "all" = some none)
    (z_any : PySem.W.nsIn K mainGlobals "any" = some none)
    (z_bool : PySem.W.nsIn K mainGlobals "bool" = some none)
    (z_dict : PySem.W.nsIn K mainGlobals "dict" = some none)
    (z_enumerate : PySem.W.nsIn K mainGlobals "enumerate" = some none)
    (z_int : PySem.W.nsIn K mainGlobals "int" = some none)
    (z_isinstance : PySem.W.nsIn K mainGlobals "isinstance" = some none)
    (z_len : PySem.W.nsIn K mainGlobals "len" = some none)
    (z_list : PySem.W.nsIn K mainGlobals "list" = some none)
    (z_max : PySem.W.nsIn K mainGlobals "max" = some none)
    (z_min : PySem.W.nsIn K mainGlobals "min" = some none)
    (z_range : PySem.W.nsIn K mainGlobals "range" = some none)
    (z_reversed : PySem.W.nsIn K mainGlobals "reversed" = some none)
    (z_sorted : PySem.W.nsIn K mainGlobals "sorted" = some none)
    (z_str : PySem.W.nsIn K mainGlobals "str" = some none)
    (z_sum : PySem.W.nsIn K mainGlobals "sum" = some none)
    (z_tuple : PySem.W.nsIn K mainGlobals "tuple" = some none)
    (plain : ∀ ns : List Int, ns.length ≤ 63 → (∀ z ∈ ns, Builtin.Int.intBits z ≤ 1048576) → ∃ outs, f_law [(false, scriptD (ns.map .int))] = some (.ok (.dat (.bool true)) outs)) :
    LamX.LawAtS l w K (CX l.prog w) 8 63 "script" mg fa h := by
  have e := hfa.symm.trans (PySem.W.mg_of X G a_law)
  cases e
  have ndT : ((([(P_in_turn, some (("in_turn.<locals>." : Str) ++ ("<lambda>" : Str))), (P_are_some, none), (P_is_paper, none)] : List (Addr × Option Str))).map (·.1)).Nodup := nd
  have D_is_number := defAt_mk (st := s_is_number) X G a_is_number l_is_number c_is_number k_is_number
  have D_children_in := defAt_mk (st := s_children_in) X G a_children_in l_children_in c_children_in k_children_in
  have D_tops_in := defAt_mk (st := s_tops_in) X G a_tops_in l_tops_in c_tops_in k_tops_in
  have D_in_turn := defAt_mk (st := s_in_turn) X G a_in_turn l_in_turn c_in_turn k_in_turn
  have D_least_peaks := defAt_mk (st := s_least_peaks) X G a_least_peaks l_least_peaks c_least_peaks k_least_peaks
  have D_last_bound := defAt_mk (st := s_last_bound) X G a_last_bound l_last_bound c_last_bound k_last_bound
  have D_told_some := defAt_mk (st := s_told_some) X G a_told_some l_told_some c_told_some k_told_some
  have D_told_paper := defAt_mk (st := s_told_paper) X G a_told_paper l_told_paper c_told_paper k_told_paper
  have D_is_shown := defAt_mk (st := s_is_shown) X G a_is_shown l_is_shown c_is_shown k_is_shown
  have D_are_some := defAt_mk (st := s_are_some) X G a_are_some l_are_some c_are_some k_are_some
  have D_is_paper := defAt_mk (st := s_is_paper) X G a_is_paper l_is_paper c_is_paper k_is_paper
  have D_proves_least := defAt_mk (st := s_proves_least) X G a_proves_least l_proves_least c_proves_least k_proves_least
  have D_u_law_draws := defAt_mk (st := s_u_law_draws) X G a_u_law_draws l_u_law_draws c_u_law_draws k_u_law_draws
  have D_u_law_take := defAt_mk (st := s_u_law_take) X G a_u_law_take l_u_law_take c_u_law_take k_u_law_take
  have D_u_law_alike := defAt_mk (st := s_u_law_alike) X G a_u_law_alike l_u_law_alike c_u_law_alike k_u_law_alike
  have D_u_law_tasks := defAt_mk (st := s_u_law_tasks) X G a_u_law_tasks l_u_law_tasks c_u_law_tasks k_u_law_tasks
  have D_u_law_children := defAt_mk (st := s_u_law_children) X G a_u_law_children l_u_law_children c_u_law_children k_u_law_children
  have D_u_law_joined := defAt_mk (st := s_u_law_joined) X G a_u_law_joined l_u_law_joined c_u_law_joined k_u_law_joined
  have D_u_law_least := defAt_mk (st := s_u_law_least) X G a_u_law_least l_u_law_least c_u_law_least k_u_law_least
  have D_u_law_turn := defAt_mk (st := s_u_law_turn) X G a_u_law_turn l_u_law_turn c_u_law_turn k_u_law_turn
  have D_u_law_some := defAt_mk (st := s_u_law_some) X G a_u_law_some l_u_law_some c_u_law_some k_u_law_some
  have D_u_law_right := defAt_mk (st := s_u_law_right) X G a_u_law_right l_u_law_right c_u_law_right k_u_law_right
  have D_u_law_bent := defAt_mk (st := s_u_law_bent) X G a_u_law_bent l_u_law_bent c_u_law_bent k_u_law_bent
  have D_law := defAt_mk (st := s_law) X G a_law l_law c_law k_law
  have B : Blt mg := ⟨PySem.W.mg_none_of X G z_abs, PySem.W.mg_none_of X G z_all, PySem.W.mg_none_of X G z_any, PySem.W.mg_none_of X G z_bool, PySem.W.mg_none_of X G z_dict, PySem.W.mg_none_of X G z_enumerate, PySem.W.mg_none_of X G z_int, PySem.W.mg_none_of X G z_isinstance, PySem.W.mg_none_of X G z_len, PySem.W.mg_none_of X G z_list, PySem.W.mg_none_of X G z_max, PySem.W.mg_none_of X G z_min, PySem.W.mg_none_of X G z_range, PySem.W.mg_none_of X G z_reversed, PySem.W.mg_none_of X G z_sorted, PySem.W.mg_none_of X G z_str, PySem.W.mg_none_of X G z_sum, PySem.W.mg_none_of X G z_tuple⟩
  have C : Cst mg := ⟨⟨_, PySem.W.mg_of X G m_MOST_TASKS⟩, ⟨_, PySem.W.mg_of X G m_MOST_CELLS⟩, v_MOST_BOUND⟩
  refine law_at (T := [(P_in_turn, some (("in_turn.<locals>." : Str) ++ ("<lambda>" : Str))), (P_are_some, none), (P_is_paper, none)]) (cls := fun _ => none) [(cc_in_turn, P_in_turn), (cc_are_some, P_are_some), (cc_is_paper, P_is_paper)] D_law (fun s u => .of_eq rfl) (fun p hp => ?_) (fun p hp => ?_) (fun p hp => ?_) (fun base tb => ?_) plain
  · rcases List.mem_cons.mp hp with rfl | hp
    · exact PySem.W.tab_of Tp X r_in_turn t_in_turn
    rcases List.mem_cons.mp hp with rfl | hp
    · exact PySem.W.tab_of Tp X r_are_some t_are_some
    rcases List.mem_cons.mp hp with rfl | hp
    · exact PySem.W.tab_of Tp X r_is_paper t_is_paper
    cases hp
  · rcases List.mem_cons.mp hp with rfl | hp
    · exact n_in_turn
    rcases List.mem_cons.mp hp with rfl | hp
    · exact n_are_some
    rcases List.mem_cons.mp hp with rfl | hp
    · exact n_is_paper
    cases hp
  · rcases List.mem_cons.mp hp with rfl | hp
    · exact ⟨_, List.mem_cons_self, rfl⟩
    rcases List.mem_cons.mp hp with rfl | hp
    · exact ⟨_, (List.mem_cons_of_mem _ List.mem_cons_self), rfl⟩
    rcases List.mem_cons.mp hp with rfl | hp
    · exact ⟨_, (List.mem_cons_of_mem _ (List.mem_cons_of_mem _ List.mem_cons_self)), rfl⟩
    cases hp
  · have C_is_number : Callee l.prog w K mg base "is_number" 1 ["value", "least", "most"] 3 [(P_in_turn, some (("in_turn.<locals>." : Str) ++ ("<lambda>" : Str))), (P_are_some, none), (P_is_paper, none)] (fun _ => none) f_is_number := ok_is_number D_is_number B
    have C_children_in : Callee l.prog w K mg base "children_in" 1 ["tasks"] 1 [(P_in_turn, some (("in_turn.<locals>." : Str) ++ ("<lambda>" : Str))), (P_are_some, none), (P_is_paper, none)] (fun _ => none) f_children_in := ok_children_in D_children_in B
    have C_tops_in : Callee l.prog w K mg base "tops_in" 1 ["tasks"] 1 [(P_in_turn, some (("in_turn.<locals>." : Str) ++ ("<lambda>" : Str))), (P_are_some, none), (P_is_paper, none)] (fun _ => none) f_tops_in := ok_tops_in D_tops_in B
    have C_in_turn : Callee l.prog w K mg base "in_turn" 3 ["tasks", "peaks", "children"] 3 [(P_in_turn, some (("in_turn.<locals>." : Str) ++ ("<lambda>" : Str))), (P_are_some, none), (P_is_paper, none)] (fun _ => none) f_in_turn := ok_in_turn D_in_turn B (tb _ List.mem_cons_self) List.mem_cons_self (hU_of ndT List.mem_cons_self)
    have C_least_peaks : Callee l.prog w K mg base "least_peaks" 4 ["tasks"] 1 [(P_in_turn, some (("in_turn.<locals>." : Str) ++ ("<lambda>" : Str))), (P_are_some, none), (P_is_paper, none)] (fun _ => none) f_least_peaks := ok_least_peaks D_least_peaks B C_children_in C_in_turn
    have C_last_bound : Callee l.prog w K mg base "last_bound" 1 ["tasks", "bounds", "some"] 3 [(P_in_turn, some (("in_turn.<locals>." : Str) ++ ("<lambda>" : Str))), (P_are_some, none), (P_is_paper, none)] (fun _ => none) f_last_bound := ok_last_bound D_last_bound B
    have C_told_some : Callee l.prog w K mg base "told_some" 4 ["tasks", "peaks", "task", "children"] 4 [(P_in_turn, some (("in_turn.<locals>." : Str) ++ ("<lambda>" : Str))), (P_are_some, none), (P_is_paper, none)] (fun _ => none) f_told_some := ok_told_some D_told_some B C_in_turn
    have C_told_paper : Callee l.prog w K mg base "told_paper" 5 ["tasks"] 1 [(P_in_turn, some (("in_turn.<locals>." : Str) ++ ("<lambda>" : Str))), (P_are_some, none), (P_is_paper, none)] (fun _ => none) f_told_paper := ok_told_paper D_told_paper B C_children_in C_least_peaks C_told_some
    have C_is_shown : Callee l.prog w K mg base "is_shown" 2 ["tasks", "below", "bounds", "task", "some"] 5 [(P_in_turn, some (("in_turn.<locals>." : Str) ++ ("<lambda>" : Str))), (P_are_some, none), (P_is_paper, none)] (fun _ => none) f_is_shown := ok_is_shown D_is_shown B C_last_bound
    have C_are_some : Callee l.prog w K mg base "are_some" 3 ["children", "value"] 2 [(P_in_turn, some (("in_turn.<locals>." : Str) ++ ("<lambda>" : Str))), (P_are_some, none), (P_is_paper, none)] (fun _ => none) f_are_some := ok_are_some D_are_some B C C_is_number (tb _ (List.mem_cons_of_mem _ List.mem_cons_self)) (List.mem_cons_of_mem _ List.mem_cons_self) (hU_of ndT (List.mem_cons_of_mem _ List.mem_cons_self))
    have C_is_paper : Callee l.prog w K mg base "is_paper" 4 ["tasks", "value"] 2 [(P_in_turn, some (("in_turn.<locals>." : Str) ++ ("<lambda>" : Str))), (P_are_some, none), (P_is_paper, none)] (fun _ => none) f_is_paper := ok_is_paper D_is_paper B C C_children_in C_is_number C_are_some C_is_shown (tb _ (List.mem_cons_of_mem _ (List.mem_cons_of_mem _ List.mem_cons_self))) (List.mem_cons_of_mem _ (List.mem_cons_of_mem _ List.mem_cons_self)) (hU_of ndT (List.mem_cons_of_mem _ (List.mem_cons_of_mem _ List.mem_cons_self)))
    have C_proves_least : Callee l.prog w K mg base "proves_least" 5 ["tasks", "peak", "value"] 3 [(P_in_turn, some (("in_turn.<locals>." : Str) ++ ("<lambda>" : Str))), (P_are_some, none), (P_is_paper, none)] (fun _ => none) f_proves_least := ok_proves_least D_proves_least B C_is_paper C_tops_in
    have C_u_law_draws : Callee l.prog w K mg base "_law_draws" 1 ["script"] 1 [(P_in_turn, some (("in_turn.<locals>." : Str) ++ ("<lambda>" : Str))), (P_are_some, none), (P_is_paper, none)] (fun _ => none) f_u_law_draws := ok_u_law_draws D_u_law_draws B
    have C_u_law_take : Callee l.prog w K mg base "_law_take" 1 ["draws", "bound"] 2 [(P_in_turn, some (("in_turn.<locals>." : Str) ++ ("<lambda>" : Str))), (P_are_some, none), (P_is_paper, none)] (fun _ => none) f_u_law_take := ok_u_law_take D_u_law_take B
    have C_u_law_alike : Callee l.prog w K mg base "_law_alike" 7 ["found", "due"] 2 [(P_in_turn, some (("in_turn.<locals>." : Str) ++ ("<lambda>" : Str))), (P_are_some, none), (P_is_paper, none)] (fun _ => none) (fr_u_law_alike 6) := okr_u_law_alike D_u_law_alike B 6
    have C_u_law_tasks : Callee l.prog w K mg base "_law_tasks" 2 ["draws", "most", "cells"] 3 [(P_in_turn, some (("in_turn.<locals>." : Str) ++ ("<lambda>" : Str))), (P_are_some, none), (P_is_paper, none)] (fun _ => none) f_u_law_tasks := ok_u_law_tasks D_u_law_tasks B C_u_law_take
    have C_u_law_children : Callee l.prog w K mg base "_law_children" 1 ["tasks"] 1 [(P_in_turn, some (("in_turn.<locals>." : Str) ++ ("<lambda>" : Str))), (P_are_some, none), (P_is_paper, none)] (fun _ => none) f_u_law_children := ok_u_law_children D_u_law_children B
    have C_u_law_joined : Callee l.prog w K mg base "_law_joined" 1 ["rows"] 1 [(P_in_turn, some (("in_turn.<locals>." : Str) ++ ("<lambda>" : Str))), (P_are_some, none), (P_is_paper, none)] (fun _ => none) f_u_law_joined := ok_u_law_joined D_u_law_joined B
    have C_u_law_least : Callee l.prog w K mg base "_law_least" 2 ["tasks"] 1 [(P_in_turn, some (("in_turn.<locals>." : Str) ++ ("<lambda>" : Str))), (P_are_some, none), (P_is_paper, none)] (fun _ => none) f_u_law_least := ok_u_law_least D_u_law_least B C_u_law_children C_u_law_joined
    have C_u_law_turn : Callee l.prog w K mg base "_law_turn" 1 ["tasks", "peaks", "some"] 3 [(P_in_turn, some (("in_turn.<locals>." : Str) ++ ("<lambda>" : Str))), (P_are_some, none), (P_is_paper, none)] (fun _ => none) f_u_law_turn := ok_u_law_turn D_u_law_turn B
    have C_u_law_some : Callee l.prog w K mg base "_law_some" 2 ["tasks", "peaks", "children", "number"] 4 [(P_in_turn, some (("in_turn.<locals>." : Str) ++ ("<lambda>" : Str))), (P_are_some, none), (P_is_paper, none)] (fun _ => none) f_u_law_some := ok_u_law_some D_u_law_some B C_u_law_turn
    have C_u_law_right : Callee l.prog w K mg base "_law_right" 1 ["tasks", "children", "value"] 3 [(P_in_turn, some (("in_turn.<locals>." : Str) ++ ("<lambda>" : Str))), (P_are_some, none), (P_is_paper, none)] (fun _ => none) f_u_law_right := ok_u_law_right D_u_law_right B
    have C_u_law_bent : Callee l.prog w K mg base "_law_bent" 2 ["draws", "tasks", "children", "value"] 4 [(P_in_turn, some (("in_turn.<locals>." : Str) ++ ("<lambda>" : Str))), (P_are_some, none), (P_is_paper, none)] (fun _ => none) f_u_law_bent := ok_u_law_bent D_u_law_bent B C_u_law_take
    have C_law : Callee l.prog w K mg base "law" 8 ["script"] 1 [(P_in_turn, some (("in_turn.<locals>." : Str) ++ ("<lambda>" : Str))), (P_are_some, none), (P_is_paper, none)] (fun _ => none) f_law := ok_law D_law B C_u_law_draws C_u_law_tasks C_u_law_children C_u_law_least C_u_law_some C_told_paper C_u_law_alike C_u_law_right C_proves_least C_is_paper C_u_law_take C_u_law_bent
    exact C_law
end Den
/-! MA: orders of children, what they need at most -/
namespace K70
variable {u p : Nat → Int}
def mostFrom (u p : Nat → Int) : Int → Int → List Nat → Int
  | _, m, [] => m
  | h, m, c :: r => mostFrom u p (h + u c) (max m (h + p c)) r
def sumOf (u : Nat → Int) : List Nat → Int
  | [] => 0
  | c :: r => u c + sumOf u r
theorem sumOf_append (u : Nat → Int) : ∀ a b : List Nat, sumOf u (a ++ b) = sumOf u a + sumOf u b
  | [], b => by simp [sumOf]
  | c :: a, b => by
    show u c + sumOf u (a ++ b) = u c + sumOf u a + sumOf u b
    rw [sumOf_append u a b]
    omega
theorem sumOf_map (u : Nat → Int) : ∀ a : List Nat, (a.map u).sum = sumOf u a
  | [] => rfl
  | c :: a => by
    rw [List.map_cons, List.sum_cons, sumOf_map u a]
    rfl
theorem sumOf_perm (u : Nat → Int) {a b : List Nat} (h : a.Perm b) : sumOf u a = sumOf u b := by
  induction h with
  | nil => rfl
  | cons x _ ih => simp only [sumOf, ih]
  | swap x y l => simp only [sumOf]; omega
  | trans _ _ i1 i2 => rw [i1, i2]
theorem sumOf_nonneg (hu : ∀ c, 0 ≤ u c) : ∀ a : List Nat, 0 ≤ sumOf u a
  | [] => Int.le_refl 0
  | c :: a => by
    have h1 := hu c
    have h2 := sumOf_nonneg hu a
    show 0 ≤ u c + sumOf u a
    omega
/-- a set's sum is at most that of a list that holds it -/
theorem sumOf_sub (hu : ∀ c, 0 ≤ u c) : ∀ (s l : List Nat), s.Nodup → (∀ x ∈ s, x ∈ l) → sumOf u s ≤ sumOf u l
  | [], l, _, _ => sumOf_nonneg hu l
  | x :: s, l, nd, h => by
    obtain ⟨n1, n2⟩ := List.nodup_cons.mp nd
    obtain ⟨l1, l2, rfl⟩ := List.append_of_mem (h x List.mem_cons_self)
    have ih := sumOf_sub hu s (l1 ++ l2) n2 fun y hy => by
      have hm := h y (List.mem_cons_of_mem _ hy)
      have hne : y ≠ x := fun e => n1 (e ▸ hy)
      simp only [List.mem_append, List.mem_cons] at hm ⊢
      rcases hm with h1 | h1 | h1
      · exact .inl h1
      · exact absurd h1 hne
      · exact .inr h1
    rw [sumOf_append] at ih ⊢
    show u x + sumOf u s ≤ sumOf u l1 + (u x + sumOf u l2)
    omega
theorem mostFrom_m : ∀ (l : List Nat) (h m : Int), m ≤ mostFrom u p h m l
  | [], h, m => Int.le_refl m
  | c :: l, h, m => by
    have := mostFrom_m l (h + u c) (max m (h + p c))
    show m ≤ mostFrom u p (h + u c) (max m (h + p c)) l
    omega
theorem mostFrom_ge : ∀ (a : List Nat) (c : Nat) (b : List Nat) (h m : Int), h + sumOf u a + p c ≤ mostFrom u p h m (a ++ c :: b)
  | [], c, b, h, m => by
    have := mostFrom_m (u := u) (p := p) b (h + u c) (max m (h + p c))
    show h + 0 + p c ≤ mostFrom u p (h + u c) (max m (h + p c)) b
    omega
  | x :: a, c, b, h, m => by
    have := mostFrom_ge a c b (h + u x) (max m (h + p x))
    show h + (u x + sumOf u a) + p c ≤ mostFrom u p (h + u x) (max m (h + p x)) (a ++ c :: b)
    omega
theorem mostFrom_le {B : Int} : ∀ (l : List Nat) (h m : Int), m ≤ B → (∀ a c b, l = a ++ c :: b → h + sumOf u a + p c ≤ B) → mostFrom u p h m l ≤ B
  | [], h, m, hm, _ => hm
  | x :: l, h, m, hm, hb => by
    have h0 := hb [] x l rfl
    have h0' : h + 0 + p x ≤ B := h0
    refine mostFrom_le l (h + u x) (max m (h + p x)) (by omega) fun a c b e => ?_
    have := hb (x :: a) c b (by rw [e]; rfl)
    have h1 : h + (u x + sumOf u a) + p c ≤ B := this
    omega
/-- the last of a set in an order -/
theorem last_in (s : List Nat) : ∀ q : List Nat, (∃ x ∈ s, x ∈ q) → ∃ a c b, q = a ++ c :: b ∧ c ∈ s ∧ ∀ y ∈ b, y ∉ s
  | [], ⟨x, _, h⟩ => by cases h
  | z :: q, ⟨x, hx, hq⟩ => by
    by_cases h : ∃ y ∈ s, y ∈ q
    · obtain ⟨a, c, b, e, h1, h2⟩ := last_in s q h
      exact ⟨z :: a, c, b, by rw [e]; rfl, h1, h2⟩
    · rcases List.mem_cons.mp hq with e | h1
      · exact ⟨[], z, q, rfl, e ▸ hx, fun y hy hs => h ⟨y, hs, hy⟩⟩
      · exact absurd ⟨x, hx, h1⟩ h
/-- whatever the order, one of a set is the last of it -/
theorem bound_ok (hu : ∀ c, 0 ≤ u c) {s q : List Nat} (nd : s.Nodup) (hs : ∀ x ∈ s, x ∈ q) (ne : s ≠ []) (m : Int) : ∃ c ∈ s, sumOf u s - u c + p c ≤ mostFrom u p 0 m q := by
  obtain ⟨x, hx⟩ := List.exists_mem_of_ne_nil s ne
  obtain ⟨a, c, b, e, h1, h2⟩ := last_in s q ⟨x, hx, hs x hx⟩
  refine ⟨c, h1, ?_⟩
  have hsub : ∀ y ∈ s, y ∈ c :: a := fun y hy => by
    have hm := hs y hy
    rw [e] at hm
    simp only [List.mem_append, List.mem_cons] at hm ⊢
    rcases hm with h | h | h
    · exact .inr h
    · exact .inl h
    · exact absurd hy (h2 y h)
  have h3 := sumOf_sub hu s (c :: a) nd hsub
  have h3' : sumOf u s ≤ u c + sumOf u a := h3
  have h4 := mostFrom_ge (u := u) (p := p) a c b 0 m
  rw [e]
  omega
/-- the order by u - p is least -/
theorem sorted_least (hu : ∀ c, 0 ≤ u c) {t q : List Nat} (pm : t.Perm q) (nd : t.Nodup) (so : t.Pairwise fun x y => u x - p x ≤ u y - p y) {m : Int} : mostFrom u p 0 m t ≤ mostFrom u p 0 m q := by
  refine mostFrom_le t 0 m (mostFrom_m q 0 m) fun a c b e => ?_
  have nd2 : (a ++ [c]).Nodup := by
    rw [e, show a ++ c :: b = (a ++ [c]) ++ b by simp] at nd
    exact (List.nodup_append.mp nd).1
  obtain ⟨x, hx, h⟩ := bound_ok (u := u) (p := p) hu (s := a ++ [c]) (q := q) nd2 (fun y hy => pm.mem_iff.mp (by
    rw [e]
    simp only [List.mem_append, List.mem_cons, List.not_mem_nil, or_false] at hy ⊢
    rcases hy with h | h
    · exact .inl h
    · exact .inr (.inl h))) (by simp) m
  have hk : u x - p x ≤ u c - p c := by
    rw [e] at so
    rcases List.mem_append.mp hx with h1 | h1
    · exact (List.pairwise_append.mp so).2.2 x h1 c List.mem_cons_self
    · rw [List.mem_singleton.mp h1]
      exact Int.le_refl _
  rw [sumOf_append] at h
  have h' : sumOf u a + (u c + 0) - u x + p x ≤ mostFrom u p 0 m q := h
  omega
end K70
/-! MB: all orders; the least need -/
namespace K70
variable {u p : Nat → Int}
def inserts (x : Nat) (l : List Nat) : List (List Nat) := (List.range (l.length + 1)).map fun k => l.take k ++ x :: l.drop k
def joined (rows : List Nat) : List (List Nat) := rows.foldl (fun found x => found.flatMap (inserts x)) [[]]
theorem mem_inserts {x : Nat} {l q : List Nat} : q ∈ inserts x l ↔ ∃ a b, l = a ++ b ∧ q = a ++ x :: b := by
  unfold inserts
  rw [List.mem_map]
  constructor
  · rintro ⟨k, _, rfl⟩
    exact ⟨l.take k, l.drop k, (List.take_append_drop k l).symm, rfl⟩
  · rintro ⟨a, b, rfl, rfl⟩
    refine ⟨a.length, List.mem_range.mpr (by rw [List.length_append]; omega), ?_⟩
    rw [List.take_left' rfl, List.drop_left' rfl]
theorem join_step {F : List (List Nat)} {dn : List Nat} {x : Nat} (h : ∀ q, q ∈ F ↔ q.Perm dn) (q : List Nat) : q ∈ F.flatMap (inserts x) ↔ q.Perm (x :: dn) := by
  rw [List.mem_flatMap]
  constructor
  · rintro ⟨l, hl, hq⟩
    obtain ⟨a, b, rfl, rfl⟩ := mem_inserts.mp hq
    exact List.perm_middle.trans (((h _).mp hl).cons x)
  · intro hp
    obtain ⟨a, b, e⟩ := List.append_of_mem (hp.mem_iff.mpr (List.mem_cons_self (a := x) (l := dn)))
    refine ⟨a ++ b, (h _).mpr ?_, mem_inserts.mpr ⟨a, b, rfl, e⟩⟩
    rw [e] at hp
    exact (List.perm_middle.symm.trans hp).cons_inv
theorem mem_joined' : ∀ (rows dn : List Nat) (F : List (List Nat)), (∀ q, q ∈ F ↔ q.Perm dn) → ∀ q, q ∈ rows.foldl (fun found x => found.flatMap (inserts x)) F ↔ q.Perm (rows.reverse ++ dn)
  | [], dn, F, h, q => h q
  | x :: rows, dn, F, h, q => by
    have ih := mem_joined' rows (x :: dn) (F.flatMap (inserts x)) (join_step h) q
    rw [List.foldl_cons, ih, List.reverse_cons, List.append_assoc]
    rfl
theorem mem_joined (rows q : List Nat) : q ∈ joined rows ↔ q.Perm rows := by
  have h := mem_joined' rows [] [[]] (fun q => by simp [List.perm_nil]) q
  rw [List.append_nil] at h
  exact h.trans ⟨fun z => z.trans rows.reverse_perm, fun z => z.trans rows.reverse_perm.symm⟩
/-- the law's best of all -/
def bestOf (cost : List Nat → Int) (qs : List (List Nat)) : Option Int := qs.foldl (fun best q => some (match best with | none => cost q | some b => min b (cost q))) none
theorem best_some (cost : List Nat → Int) : ∀ (qs : List (List Nat)) (b : Int), ∃ r, qs.foldl (fun best q => some (match best with | none => cost q | some b => min b (cost q))) (some b) = some r ∧ r ≤ b ∧ (∀ q ∈ qs, r ≤ cost q) ∧ (r = b ∨ ∃ q ∈ qs, r = cost q)
  | [], b => ⟨b, rfl, Int.le_refl b, (fun q hq => by cases hq), .inl rfl⟩
  | q :: qs, b => by
    obtain ⟨r, h1, h2, h3, h4⟩ := best_some cost qs (min b (cost q))
    refine ⟨r, h1, by omega, fun x hx => ?_, ?_⟩
    · rcases List.mem_cons.mp hx with rfl | hx
      · omega
      · exact h3 x hx
    · rcases h4 with h | ⟨x, hx, h⟩
      · by_cases hb : b ≤ cost q
        · exact .inl (by omega)
        · exact .inr ⟨q, List.mem_cons_self, by omega⟩
      · exact .inr ⟨x, List.mem_cons_of_mem _ hx, h⟩
theorem best_eq {cost : List Nat → Int} {qs : List (List Nat)} {t : List Nat} (ht : t ∈ qs) (h : ∀ q ∈ qs, cost t ≤ cost q) : bestOf cost qs = some (cost t) := by
  cases qs with
  | nil => cases ht
  | cons q qs =>
    obtain ⟨r, h1, h2, h3, h4⟩ := best_some cost qs (cost q)
    have e : bestOf cost (q :: qs) = some r := h1
    rw [e]
    have h5 : cost t ≤ r := by
      rcases h4 with h | ⟨x, hx, h'⟩
      · have := h
        have := ‹∀ q' ∈ q :: qs, cost t ≤ cost q'› q List.mem_cons_self
        omega
      · have := h x (List.mem_cons_of_mem _ hx)
        omega
    have h6 : r ≤ cost t := by
      rcases List.mem_cons.mp ht with rfl | ht
      · exact h2
      · exact h3 t ht
    rw [show r = cost t by omega]
/-- the cost of an order, with the front at its end -/
def costOf (u p : Nat → Int) (fr : Int) (q : List Nat) : Int := max (mostFrom u p 0 0 q) (sumOf u q + fr)
theorem least_all (hu : ∀ c, 0 ≤ u c) {cs t : List Nat} {fr : Int} (pm : t.Perm cs) (nd : cs.Nodup) (so : t.Pairwise fun x y => u x - p x ≤ u y - p y) : bestOf (costOf u p fr) (joined cs) = some (costOf u p fr t) := by
  refine best_eq ((mem_joined cs t).mpr pm) fun q hq => ?_
  have hq := (mem_joined cs q).mp hq
  have h1 := sorted_least (u := u) (p := p) hu (pm.trans hq.symm) (pm.nodup_iff.mpr nd) so (m := 0)
  have h2 := sumOf_perm u (pm.trans hq.symm)
  unfold costOf
  omega
end K70
/-! MC: the told set of children; papers are right -/
namespace K70
variable {u p : Nat → Int}
/-- the program's walk: held, the set so far, best, told -/
def toldGo (u p : Nat → Int) : Int → List Nat → Int → List Nat → List Nat → Int × List Nat
  | _, _, best, told, [] => (best, told)
  | h, pre, best, told, c :: r => if h + p c > best then toldGo u p (h + u c) (pre ++ [c]) (h + p c) (pre ++ [c]) r else toldGo u p (h + u c) (pre ++ [c]) best told r
/-- the law's rows -/
def rowsOf (u p : Nat → Int) : Int → List Nat → List Nat → List (Int × List Nat)
  | _, _, [] => []
  | h, pre, c :: r => (h + p c, pre ++ [c]) :: rowsOf u p (h + u c) (pre ++ [c]) r
theorem rows_mem : ∀ (t pre : List Nat) (h : Int) (row : Int × List Nat), row ∈ rowsOf u p h pre t → ∃ a c b, t = a ++ c :: b ∧ row = (h + sumOf u a + p c, pre ++ a ++ [c])
  | [], pre, h, row, hr => by cases hr
  | x :: t, pre, h, row, hr => by
    rcases List.mem_cons.mp hr with rfl | hr
    · exact ⟨[], x, t, rfl, by simp [sumOf]⟩
    · obtain ⟨a, c, b, e, e2⟩ := rows_mem t (pre ++ [x]) (h + u x) row hr
      refine ⟨x :: a, c, b, by rw [e]; rfl, ?_⟩
      rw [e2]
      show (h + u x + sumOf u a + p c, pre ++ [x] ++ a ++ [c]) = (h + (u x + sumOf u a) + p c, pre ++ (x :: a) ++ [c])
      rw [show h + u x + sumOf u a + p c = h + (u x + sumOf u a) + p c by omega]
      simp
/-- the walk tells the most need, and the first row that has it -/
theorem told_spec : ∀ (t pre : List Nat) (h best : Int) (told : List Nat), (toldGo u p h pre best told t).1 = (rowsOf u p h pre t).foldl (fun m row => max m row.1) best ∧
    (((toldGo u p h pre best told t) = (best, told) ∧ ∀ row ∈ rowsOf u p h pre t, row.1 ≤ best) ∨ (best < (toldGo u p h pre best told t).1 ∧ (rowsOf u p h pre t).find? (fun row => row.1 == (toldGo u p h pre best told t).1) = some (toldGo u p h pre best told t)))
  | [], pre, h, best, told => ⟨rfl, .inl ⟨rfl, fun row hr => by cases hr⟩⟩
  | c :: r, pre, h, best, told => by
    by_cases hc : h + p c > best
    · have e : toldGo u p h pre best told (c :: r) = toldGo u p (h + u c) (pre ++ [c]) (h + p c) (pre ++ [c]) r := if_pos hc
      obtain ⟨i1, i2⟩ := told_spec r (pre ++ [c]) (h + u c) (h + p c) (pre ++ [c])
      rw [e]
      refine ⟨?_, .inr ?_⟩
      · rw [i1]
        show _ = (rowsOf u p (h + u c) (pre ++ [c]) r).foldl _ (max best (h + p c))
        rw [show max best (h + p c) = h + p c by omega]
      · rcases i2 with ⟨j1, j2⟩ | ⟨j1, j2⟩
        · rw [j1]
          refine ⟨hc, ?_⟩
          show ((h + p c, pre ++ [c]) :: rowsOf u p (h + u c) (pre ++ [c]) r).find? _ = _
          rw [List.find?_cons_of_pos (by simp)]
        · refine ⟨by omega, ?_⟩
          show ((h + p c, pre ++ [c]) :: rowsOf u p (h + u c) (pre ++ [c]) r).find? _ = _
          rw [List.find?_cons_of_neg (by simp; omega)]
          exact j2
    · have e : toldGo u p h pre best told (c :: r) = toldGo u p (h + u c) (pre ++ [c]) best told r := if_neg hc
      obtain ⟨i1, i2⟩ := told_spec r (pre ++ [c]) (h + u c) best told
      rw [e]
      refine ⟨?_, ?_⟩
      · rw [i1]
        show _ = (rowsOf u p (h + u c) (pre ++ [c]) r).foldl _ (max best (h + p c))
        rw [show max best (h + p c) = best by omega]
      · rcases i2 with ⟨j1, j2⟩ | ⟨j1, j2⟩
        · refine .inl ⟨j1, fun row hr => ?_⟩
          rcases List.mem_cons.mp hr with rfl | hr
          · show h + p c ≤ best
            omega
          · exact j2 row hr
        · refine .inr ⟨j1, ?_⟩
          show ((h + p c, pre ++ [c]) :: rowsOf u p (h + u c) (pre ++ [c]) r).find? _ = _
          rw [List.find?_cons_of_neg (by simp; omega)]
          exact j2
theorem rows_most : ∀ (t pre : List Nat) (h m : Int), (rowsOf u p h pre t).foldl (fun m row => max m row.1) m = mostFrom u p h m t
  | [], pre, h, m => rfl
  | c :: r, pre, h, m => rows_most r (pre ++ [c]) (h + u c) (max m (h + p c))
theorem most_start : ∀ (t : List Nat) (h m m' : Int), mostFrom u p h m t ≤ max (mostFrom u p h m' t) m
  | [], h, m, m' => by
    show m ≤ max m' m
    omega
  | c :: r, h, m, m' => by
    have h1 := most_start r (h + u c) (max m (h + p c)) (max m' (h + p c))
    have h2 := mostFrom_m (u := u) (p := p) r (h + u c) (max m' (h + p c))
    show mostFrom u p (h + u c) (max m (h + p c)) r ≤ max (mostFrom u p (h + u c) (max m' (h + p c)) r) m
    omega
/-- the told set bears its bound -/
theorem told_right (hu : ∀ c, 0 ≤ u c) {t s : List Nat} {best fr : Int} (so : t.Pairwise fun x y => u x - p x ≤ u y - p y) (h : toldGo u p 0 [] (-1) [] t = (best, s)) (hb : best > sumOf u t + fr) (hf : 0 ≤ fr) :
    best = costOf u p fr t ∧ s ≠ [] ∧ (∀ x ∈ s, best ≤ sumOf u s - u x + p x) ∧ ∃ b, t = s ++ b := by
  obtain ⟨h1, h2⟩ := told_spec (u := u) (p := p) t [] 0 (-1) []
  rw [h] at h1 h2
  rw [rows_most] at h1
  have h1 : best = mostFrom u p 0 (-1) t := h1
  have hs := sumOf_nonneg hu t
  rcases h2 with ⟨j1, _⟩ | ⟨_, j2⟩
  · have e : best = -1 := congrArg Prod.fst j1
    omega
  · obtain ⟨a, c, b, e, e2⟩ := rows_mem t [] 0 _ (List.mem_of_find?_eq_some j2)
    have e3 : best = 0 + sumOf u a + p c := congrArg Prod.fst e2
    have e4 : s = [] ++ a ++ [c] := congrArg Prod.snd e2
    rw [List.nil_append] at e4
    refine ⟨?_, by rw [e4]; simp, fun x hx => ?_, b, by rw [e4, e]; simp⟩
    · have m1 := most_start (u := u) (p := p) t 0 0 (-1)
      have m2 := most_start (u := u) (p := p) t 0 (-1) 0
      have m3 := mostFrom_m (u := u) (p := p) t 0 0
      unfold costOf
      omega
    · have hk : u x - p x ≤ u c - p c := by
        rw [e] at so
        rw [e4] at hx
        rcases List.mem_append.mp hx with h3 | h3
        · exact (List.pairwise_append.mp so).2.2 x h3 c List.mem_cons_self
        · rw [List.mem_singleton.mp h3]
          exact Int.le_refl _
      rw [e4, sumOf_append]
      show best ≤ sumOf u a + (u c + 0) - u x + p x
      omega
/-- where nothing is told the front is the most -/
theorem told_none (hu : ∀ c, 0 ≤ u c) {t s : List Nat} {best fr : Int} (h : toldGo u p 0 [] (-1) [] t = (best, s)) (hb : best ≤ sumOf u t + fr) (hf : 0 ≤ fr) : costOf u p fr t = sumOf u t + fr := by
  obtain ⟨h1, _⟩ := told_spec (u := u) (p := p) t [] 0 (-1) []
  rw [h, rows_most] at h1
  have h1 : best = mostFrom u p 0 (-1) t := h1
  have hs := sumOf_nonneg hu t
  have m1 := most_start (u := u) (p := p) t 0 0 (-1)
  unfold costOf
  omega
/-- a right bound is at most the least need -/
theorem right_le (hu : ∀ c, 0 ≤ u c) {q s : List Nat} {b fr : Int} {bs : Nat → Int} (nd : s.Nodup) (hs : ∀ x ∈ s, x ∈ q) (hb : ∀ x ∈ s, bs x ≤ p x) (h1 : s = [] → b ≤ sumOf u q + fr) (h2 : s ≠ [] → ∀ x ∈ s, b ≤ sumOf u s - u x + bs x) : b ≤ costOf u p fr q := by
  unfold costOf
  by_cases e : s = []
  · have := h1 e
    omega
  · obtain ⟨c, hc, h⟩ := bound_ok (u := u) (p := p) hu nd hs e 0
    have := h2 e c hc
    have := hb c hc
    omega
end K70
/-! PA: what readings come to: generic -/
namespace Den
open PySem
@[simp] theorem run_bind {α β : Type} (m : M α) (k : α → M β) (s : DS) : (m >>= k) s = match m s with
  | none => none
  | some (.ok a s') => k a s'
  | some (.err c s') => some (.err c s') := rfl
@[simp] theorem run_pure {α : Type} (a : α) (s : DS) : (pure a : M α) s = some (.ok a s) := rfl
@[simp] theorem run_fail {α : Type} (s : DS) : (fail : M α) s = none := rfl
theorem bind_ok {α β : Type} {m : M α} {k : α → M β} {s s' : DS} {a : α} (h : m s = some (.ok a s')) : (m >>= k) s = k a s' := by
  rw [run_bind, h]
@[simp] theorem run_ite {α : Type} (c : Prop) [Decidable c] (a b : M α) (s : DS) : (if c then a else b) s = if c then a s else b s := by
  split <;> rfl
@[simp] theorem run_need (b : Bool) (s : DS) : need b s = if b then some (.ok () s) else none := by
  cases b <;> rfl
@[simp] theorem run_dat (r : R) (s : DS) : dat r s = match dOf s r with
  | some d => some (.ok d s)
  | none => none := rfl
@[simp] theorem run_get (i : Nat) (s : DS) : getSl i s = match s[i]? with
  | some (some sv) => some (.ok (getR i sv) s)
  | _ => none := rfl
/-! ### slots -/
theorem wipeD_wipeD (s : DS) (vs : List Nat) : wipeD (wipeD s vs) vs = wipeD s vs := by
  apply List.ext_getElem?
  intro j
  rw [wipeD_get, wipeD_get, wipeD_length]
  split <;> rfl
theorem okSlots_noOwn {vs : List Nat} {s : DS} (h : okSlots vs s = true) : True := trivial
theorem restore_same {s s1 : DS} {vs : List Nat} (h : wipeD s1 vs = wipeD s vs) : restoreD s s1 vs = s := by
  have hl : s1.length = s.length := by
    have := congrArg List.length h
    rwa [wipeD_length, wipeD_length] at this
  apply List.ext_getElem?
  intro j
  rw [restoreD_get]
  split
  · rename_i hj
    have : j < s.length := by omega
    rw [List.getElem?_eq_getElem this]
    rfl
  · rename_i hj
    have e := congrArg (fun l => l[j]?) h
    simp only [wipeD_get] at e
    by_cases hv : j ∈ vs
    · have n1 : ¬ j < s1.length := fun z => hj ⟨hv, z⟩
      rw [List.getElem?_eq_none (by omega), List.getElem?_eq_none (by omega)]
    · simpa [hv] using e
theorem shape_same {s s1 : DS} {vs : List Nat} (h : wipeD s1 vs = wipeD s vs) : shapeOk vs s s1 = true := by
  unfold shapeOk
  rw [List.all_eq_true]
  intro i hi
  have hl : s1.length = s.length := by
    have := congrArg List.length h
    rwa [wipeD_length, wipeD_length] at this
  have e := congrArg (fun l => l[i]?) h
  simp only [wipeD_get] at e
  by_cases hv : i ∈ vs
  · simp [hv]
  · simp only [hv, false_and, if_false] at e
    rw [e]
    cases (s[i]?).getD none <;> simp
theorem within_run {α : Type} {vs : List Nat} {m : M α} {s s1 : DS} {a : α} (ok : okSlots vs s = true) (h : m s = some (.ok a s1)) (hw : wipeD s1 vs = wipeD s vs) : within vs m s = some (.ok a s) := by
  unfold within
  rw [if_pos ok, h]
  simp only
  rw [if_pos (shape_same hw), restore_same hw]
/-! ### list comprehensions -/
def lcBody (g : R → M Unit) (ft : M Bool) (fe : M R) (d : D) : M (Option D) := do
  g (.dat d)
  let b ← ft
  if b then do
    let y ← fe
    let e ← frz y
    pure (some e)
  else pure none
@[simp] theorem run_wipe (vs : List Nat) (s : DS) : wipeM vs s = some (.ok () (wipeD s vs)) := rfl
theorem lcLoop_run {vs : List Nat} {g : R → M Unit} {ft : M Bool} {fe : M R} {s : DS} {h : D → Option D} : ∀ (items acc : List D) (s0 : DS), wipeD s0 vs = wipeD s vs → acc.length + items.length ≤ 16777216 → (∀ d ∈ items, ∃ s', wipeD s' vs = wipeD s vs ∧ lcBody g ft fe d (wipeD s vs) = some (.ok (h d) s')) →
    ∃ s1, wipeD s1 vs = wipeD s vs ∧ lcLoop vs g ft fe items acc s0 = some (.ok (acc ++ items.filterMap h) s1)
  | [], acc, s0, e, _, _ => ⟨s0, e, by simp [lcLoop, run_pure]⟩
  | d :: r, acc, s0, e, hl, hb => by
    obtain ⟨s', e', q⟩ := hb d List.mem_cons_self
    have hl' : acc.length + (r.length + 1) ≤ 16777216 := hl
    unfold lcLoop
    rw [run_bind, run_wipe]
    simp only
    rw [e]
    unfold lcBody at q
    rw [run_bind] at q ⊢
    cases h1 : g (.dat d) (wipeD s vs) with
    | none => rw [h1] at q; cases q
    | some z =>
      cases z with
      | err c z => rw [h1] at q; cases q
      | ok u s2 =>
        rw [h1] at q
        simp only at q ⊢
        rw [run_bind] at q ⊢
        cases h2 : ft s2 with
        | none => rw [h2] at q; cases q
        | some z =>
          cases z with
          | err c z => rw [h2] at q; cases q
          | ok b s3 =>
            rw [h2] at q
            simp only at q ⊢
            cases b with
            | false =>
              simp only [Bool.false_eq_true, if_false] at q ⊢
              rw [run_pure] at q
              injection q with q
              injection q with q1 q2
              obtain ⟨s1, e1, p⟩ := lcLoop_run r acc s3 (by rw [q2]; exact e') (by omega) (fun x hx => hb x (List.mem_cons_of_mem _ hx))
              exact ⟨s1, e1, by rw [p, List.filterMap_cons, ← q1]⟩
            | true =>
              simp only [if_true] at q ⊢
              rw [run_bind] at q ⊢
              cases h3 : fe s3 with
              | none => rw [h3] at q; cases q
              | some z =>
                cases z with
                | err c z => rw [h3] at q; cases q
                | ok y s4 =>
                  rw [h3] at q
                  simp only at q ⊢
                  rw [run_bind] at q ⊢
                  cases h4 : frz y s4 with
                  | none => rw [h4] at q; cases q
                  | some z =>
                    cases z with
                    | err c z => rw [h4] at q; cases q
                    | ok w s5 =>
                      rw [h4] at q
                      simp only at q ⊢
                      rw [run_pure] at q
                      injection q with q
                      injection q with q1 q2
                      rw [run_bind, show lenOk (acc.length + 1) s5 = some (.ok () s5) by unfold lenOk; rw [run_need, if_pos (decide_eq_true (by omega))]]
                      simp only
                      obtain ⟨s1, e1, p⟩ := lcLoop_run r (acc ++ [w]) s5 (by rw [q2]; exact e') (by rw [List.length_append]; show acc.length + 1 + r.length ≤ _; omega) (fun x hx => hb x (List.mem_cons_of_mem _ hx))
                      exact ⟨s1, e1, by rw [p, List.filterMap_cons, ← q1, List.append_assoc]; rfl⟩
theorem lc_run {vs : List Nat} {fi : M (List D)} {g : R → M Unit} {ft : M Bool} {fe : M R} {s : DS} {items : List D} (h : D → Option D) (hfi : fi s = some (.ok items s)) (ok : okSlots vs s = true) (hl : items.length ≤ 16777216)
    (hb : ∀ d ∈ items, ∃ s', wipeD s' vs = wipeD s vs ∧ lcBody g ft fe d (wipeD s vs) = some (.ok (h d) s')) : lcD vs fi g ft fe s = some (.ok (.new (.list (items.filterMap h))) s) := by
  unfold lcD
  rw [run_bind, hfi]
  simp only
  obtain ⟨s1, e1, p⟩ := lcLoop_run items [] s rfl (by simpa using hl) hb
  rw [run_bind, within_run ok p e1]
  rfl
/-! ### all, any -/
def gxBody (g : R → M Unit) (fe : M R) (d : D) : M Bool := do
  g (.dat d)
  let y ← fe
  asBool y
theorem gxLoop_run {c : Bool} {vs : List Nat} {g : R → M Unit} {fe : M R} {s : DS} {h : D → Bool} : ∀ (items : List D) (s0 : DS), wipeD s0 vs = wipeD s vs → (∀ d ∈ items, ∃ s', wipeD s' vs = wipeD s vs ∧ gxBody g fe d (wipeD s vs) = some (.ok (h d) s')) →
    ∃ s1, wipeD s1 vs = wipeD s vs ∧ gxLoop c vs g fe items s0 = some (.ok (if c then items.all h else items.any h) s1)
  | [], s0, e, _ => ⟨s0, e, by cases c <;> rfl⟩
  | d :: r, s0, e, hb => by
    obtain ⟨s', e', q⟩ := hb d List.mem_cons_self
    unfold gxLoop
    rw [run_bind, run_wipe]
    simp only
    rw [e]
    unfold gxBody at q
    rw [run_bind] at q ⊢
    cases h1 : g (.dat d) (wipeD s vs) with
    | none => rw [h1] at q; cases q
    | some z =>
      cases z with
      | err c z => rw [h1] at q; cases q
      | ok u s2 =>
        rw [h1] at q
        simp only at q ⊢
        rw [run_bind] at q ⊢
        cases h2 : fe s2 with
        | none => rw [h2] at q; cases q
        | some z =>
          cases z with
          | err c z => rw [h2] at q; cases q
          | ok y s3 =>
            rw [h2] at q
            simp only at q ⊢
            rw [run_bind, q]
            simp only
            obtain ⟨s1, e1, p⟩ := gxLoop_run (c := c) r s' e' (fun x hx => hb x (List.mem_cons_of_mem _ hx))
            by_cases hc : h d = c
            · rw [if_pos hc]
              refine ⟨s1, e1, ?_⟩
              rw [p]
              cases c <;> simp [hc]
            · rw [if_neg hc]
              refine ⟨s', e', ?_⟩
              rw [run_pure]
              cases c <;> cases hd : h d <;> simp_all
theorem gx_run {c : Bool} {vs : List Nat} {fi : M (List D)} {g : R → M Unit} {fe : M R} {s : DS} {items : List D} (h : D → Bool) (hfi : fi s = some (.ok items s)) (ok : okSlots vs s = true)
    (hb : ∀ d ∈ items, ∃ s', wipeD s' vs = wipeD s vs ∧ gxBody g fe d (wipeD s vs) = some (.ok (h d) s')) : gxD c vs fi g fe s = some (.ok (.dat (.bool (if c then items.all h else items.any h))) s) := by
  unfold gxD
  rw [run_bind, hfi]
  simp only
  obtain ⟨s1, e1, p⟩ := gxLoop_run (c := c) items s rfl hb
  rw [run_bind, within_run ok p e1]
  rfl
/-! ### for -/
theorem for_run {α : Type} (ρ : α → DS) (f : α → D → α) {g : R → M Unit} {fb : M Fl} (I : α → Prop) : ∀ (items : List D) (x : α), I x → (∀ d ∈ items, ∀ x, I x → I (f x d) ∧ (do g (.dat d); fb) (ρ x) = some (.ok .nx (ρ (f x d)))) → I (items.foldl f x) ∧ forD g fb items (ρ x) = some (.ok .nx (ρ (items.foldl f x)))
  | [], x, hx, _ => ⟨hx, rfl⟩
  | d :: r, x, hx, hb => by
    obtain ⟨h1, h2⟩ := hb d List.mem_cons_self x hx
    obtain ⟨i1, i2⟩ := for_run ρ f I r (f x d) h1 (fun y hy => hb y (List.mem_cons_of_mem _ hy))
    refine ⟨i1, ?_⟩
    unfold forD
    rw [run_bind] at h2 ⊢
    cases h3 : g (.dat d) (ρ x) with
    | none => rw [h3] at h2; cases h2
    | some z =>
      cases z with
      | err c z => rw [h3] at h2; cases h2
      | ok u s2 =>
        rw [h3] at h2
        simp only at h2 ⊢
        rw [run_bind, h2]
        exact i2
end Den
/-! PB: what expressions come to -/
namespace Den
open PySem PyProof.Rows L2
/-- f comes to r, the state stays -/
def Rn {α : Type} (f : M α) (s : DS) (r : α) : Prop := f s = some (.ok r s)
abbrev Ev (f : M R) (s : DS) (d : D) : Prop := Rn f s (.dat d)
section
variable {s : DS} {fa fb fc fo : M R} {fr : M (List R)} {d e a b : D} {i j : Int} {x y : Bool} {es : List D}
theorem Rn.bind {α β : Type} {m : M α} {k : α → M β} {a : α} (h : Rn m s a) : (m >>= k) s = k a s := bind_ok h
theorem ev_get {k : Nat} (h : s[k]? = some (some (.dat d))) : Ev (getSl k) s d := by
  unfold Ev Rn
  rw [run_get, h]
  rfl
theorem rn_get {k : Nat} {sv : SV} (h : s[k]? = some (some sv)) : Rn (getSl k) s (getR k sv) := by
  unfold Rn
  rw [run_get, h]
theorem ev_int : Ev (rI i) s (.int i) := rfl
theorem ev_bool : Ev (rB x) s (.bool x) := rfl
theorem ev_str {z : Str} : Ev (rS z) s (.str z) := rfl
theorem ev_none : Ev rN s .none := rfl
theorem Rn.o {g : R → R → M R} {r r' : R} {z : R} (h1 : Rn fa s r) (h2 : Rn fb s r') (h : g r r' s = some (.ok z s)) : Rn (rO g fa fb) s z := by
  unfold Rn rO
  rw [h1.bind, h2.bind, h]
theorem ev_lt (h1 : Ev fa s (.int i)) (h2 : Ev fb s (.int j)) : Ev (rO gLt fa fb) s (.bool (decide (i < j))) := h1.o h2 rfl
theorem ev_le (h1 : Ev fa s (.int i)) (h2 : Ev fb s (.int j)) : Ev (rO gLe fa fb) s (.bool (decide (i ≤ j))) := h1.o h2 rfl
theorem ev_gt (h1 : Ev fa s (.int i)) (h2 : Ev fb s (.int j)) : Ev (rO gGt fa fb) s (.bool (decide (j < i))) := h1.o h2 rfl
theorem ev_ge (h1 : Ev fa s (.int i)) (h2 : Ev fb s (.int j)) : Ev (rO gGe fa fb) s (.bool (decide (j ≤ i))) := h1.o h2 rfl
theorem ev_add (h1 : Ev fa s (.int i)) (h2 : Ev fb s (.int j)) : Ev (rO gAdd fa fb) s (.int (i + j)) := h1.o h2 rfl
theorem ev_sub (h1 : Ev fa s (.int i)) (h2 : Ev fb s (.int j)) : Ev (rO gSub fa fb) s (.int (i - j)) := h1.o h2 rfl
theorem ev_mul (h1 : Ev fa s (.int i)) (h2 : Ev fb s (.int j)) (h : mulOk i j = true) : Ev (rO gMul fa fb) s (.int (i * j)) := h1.o h2 (by
  show (need (mulOk i j) >>= fun _ => retI (i * j)) s = _
  rw [run_bind, run_need, h]
  rfl)
theorem ev_mod (h1 : Ev fa s (.int i)) (h2 : Ev fb s (.int j)) (h : 0 < j) : Ev (rO gMod fa fb) s (.int (i % j)) := h1.o h2 (by
  show (need (decide (0 < j)) >>= fun _ => (pure (.dat (.int (i % j))) : M R)) s = _
  rw [run_bind, run_need, decide_eq_true h]
  rfl)
theorem ev_fdiv (h1 : Ev fa s (.int i)) (h2 : Ev fb s (.int j)) (h : 0 < j ∧ j < 1073741824) : Ev (rO gFdiv fa fb) s (.int (i / j)) := h1.o h2 (by
  show (need (decide (0 < j ∧ j < 1073741824)) >>= fun _ => (pure (.dat (.int (i / j))) : M R)) s = _
  rw [run_bind, run_need, decide_eq_true h]
  rfl)
theorem ev_addT {as bs : List D} (h1 : Ev fa s (.tuple as)) (h2 : Ev fb s (.tuple bs)) (h : as.length + bs.length ≤ 16777216) : Ev (rO gAdd fa fb) s (.tuple (as ++ bs)) := h1.o h2 (by
  show (lenOk (as.length + bs.length) >>= fun _ => (pure (.dat (.tuple (as ++ bs))) : M R)) s = _
  unfold lenOk
  rw [run_bind, run_need, decide_eq_true h]
  rfl)
theorem rn_addL {as bs : List D} {r r' : R} (h1 : Rn fa s r) (h2 : Rn fb s r') (e1 : dOf s r = some (.list as)) (e2 : dOf s r' = some (.list bs)) (h : as.length + bs.length ≤ 16777216) : Rn (rO gAdd fa fb) s (.new (.list (as ++ bs))) := h1.o h2 (by
  unfold gAdd
  rw [run_bind, run_dat, e1]
  simp only
  rw [run_bind, run_dat, e2]
  simp only
  unfold lenOk
  rw [run_bind, run_need, decide_eq_true h]
  rfl)
theorem rn_eq {r r' : R} (h1 : Rn fa s r) (h2 : Rn fb s r') (e1 : dOf s r = some a) (e2 : dOf s r' = some b) (ha : SeqAt.shaped a = true) (hb : SeqAt.shaped b = true) : Ev (rO gEq fa fb) s (.bool (PyData.eqv a b)) := h1.o h2 (by
  unfold gEq
  rw [run_bind, run_dat, e1]
  simp only
  rw [run_bind, run_dat, e2]
  simp only
  rw [run_bind, run_need, ha, hb]
  rfl)
theorem rn_ne {r r' : R} (h1 : Rn fa s r) (h2 : Rn fb s r') (e1 : dOf s r = some a) (e2 : dOf s r' = some b) (ha : SeqAt.shaped a = true) (hb : SeqAt.shaped b = true) : Ev (rO gNe fa fb) s (.bool (!PyData.eqv a b)) := h1.o h2 (by
  unfold gNe
  rw [run_bind, run_dat, e1]
  simp only
  rw [run_bind, run_dat, e2]
  simp only
  rw [run_bind, run_need, ha, hb]
  rfl)
theorem ev_isN (h1 : Ev fa s d) : Ev (rO (gIsN false) fa rN) s (.bool (isNone d)) := h1.o (r' := .dat .none) rfl rfl
theorem ev_notN (h1 : Ev fa s d) : Ev (rO (gIsN true) fa rN) s (.bool (!isNone d)) := h1.o (r' := .dat .none) rfl rfl
theorem ev_isB (h1 : Ev fa s (.bool x)) (h2 : Ev fb s (.bool y)) : Ev (rO (gIsB false) fa fb) s (.bool (decide (x = y))) := h1.o h2 rfl
theorem ev_notB (h1 : Ev fa s (.bool x)) (h2 : Ev fb s (.bool y)) : Ev (rO (gIsB true) fa fb) s (.bool (!decide (x = y))) := h1.o h2 rfl
theorem ev_inS {neg : Bool} {r r' : R} (h1 : Rn fa s r) (h2 : Rn fb s r') (e1 : dOf s r = some a) (e2 : dOf s r' = some b) (hs : seqOf b = some es) (hf : flat a = true) (hf2 : es.all flat = true) : Ev (rO (gIn neg) fa fb) s (.bool (if neg then !inD a es else inD a es)) := h1.o h2 (by
  unfold gIn
  rw [run_bind, run_dat, e1]
  simp only
  rw [run_bind, run_dat, e2]
  simp only
  rw [hs]
  simp only
  rw [run_bind, run_need, hf, hf2]
  rfl)
theorem rn_ix {r r' : R} {z : D} (h1 : Rn fa s r) (h2 : Rn fb s r') (e1 : dOf s r = some a) (e2 : dOf s r' = some (.int i)) (hs : seqOf a = some es) (h : atI es i = some z) : Ev (rO gIx fa fb) s z := h1.o h2 (by
  unfold gIx
  rw [run_bind, run_dat, e1]
  simp only
  rw [run_bind, run_dat, e2]
  simp only
  rw [hs]
  simp only
  rw [h]
  rfl)
theorem ev_ix {z : D} (h1 : Ev fa s a) (h2 : Ev fb s (.int i)) (hs : seqOf a = some es) (h : atI es i = some z) : Ev (rO gIx fa fb) s z := rn_ix h1 h2 rfl rfl hs h
theorem rn_ixD {r r' : R} {z : D} {kvs : List (D × D)} {k : Key} (h1 : Rn fa s r) (h2 : Rn fb s r') (e1 : dOf s r = some (.dict kvs)) (e2 : dOf s r' = some b) (hn : seqOf (.dict kvs) = none) (hk : keyOf b = some k) (h : lookD (kD k) kvs = some z) : Ev (rO gIx fa fb) s z := h1.o h2 (by
  unfold gIx
  rw [run_bind, run_dat, e1]
  simp only
  rw [run_bind, run_dat, e2]
  simp only
  rw [hn]
  simp only
  rw [hk]
  simp only
  rw [h]
  rfl)
theorem ev_neg (h1 : Ev fa s (.int i)) : Ev (rNeg fa) s (.int (-i)) := by
  unfold Ev Rn rNeg
  rw [h1.bind]
  rfl
theorem ev_isi {T : String} {r : R} (h1 : Rn fa s r) (e : dOf s r = some d) : Ev (rIsi T fa) s (.bool (isT T d)) := by
  unfold Ev Rn rIsi
  rw [h1.bind]
  unfold gIsi
  rw [run_bind, run_dat, e]
  rfl
theorem ev_and (h1 : Ev fa s (.bool x)) (h2 : x = true → Ev fb s (.bool y)) : Ev (andD fa fb) s (.bool (x && y)) := by
  unfold Ev Rn andD
  rw [h1.bind]
  cases x with
  | false => rfl
  | true => exact h2 rfl
theorem ev_or (h1 : Ev fa s (.bool x)) (h2 : x = false → Ev fb s (.bool y)) : Ev (orD fa fb) s (.bool (x || y)) := by
  unfold Ev Rn orD
  rw [h1.bind]
  cases x with
  | true => rfl
  | false => exact h2 rfl
theorem ev_not (h1 : Ev fa s (.bool x)) : Ev (rNotE fa) s (.bool (!x)) := by
  unfold Ev Rn rNotE
  rw [h1.bind]
  rfl
theorem ev_leLe {k : Int} (h1 : Ev fa s (.int i)) (h2 : Ev fb s (.int j)) (h3 : Ev fc s (.int k)) : Ev (chain fa fb fc gLe gLe) s (.bool (decide (i ≤ j) && decide (j ≤ k))) := by
  unfold Ev Rn chain
  rw [h1.bind, h2.bind]
  show (match (R.dat (.bool (decide (i ≤ j)))) with | .dat (.bool true) => _ | .dat (.bool false) => _ | _ => _ : M R) s = _
  cases decide (i ≤ j) with
  | false => rfl
  | true =>
    show (fc >>= fun z => gLe (.dat (.int j)) z) s = _
    rw [h3.bind]
    rfl
theorem rt_val (h1 : Ev fa s (.bool x)) : Rn (rT fa) s x := by
  unfold Rn rT
  rw [h1.bind]
  rfl
theorem rt_not {c : M Bool} (h : Rn c s x) : Rn (rNotT c) s (!x) := by
  unfold Rn rNotT
  rw [h.bind]
  rfl
theorem rt_and {c c' : M Bool} (h : Rn c s x) (h2 : x = true → Rn c' s y) : Rn (andT c c') s (x && y) := by
  unfold Rn andT
  rw [h.bind]
  cases x with
  | false => rfl
  | true => exact h2 rfl
theorem rt_or {c c' : M Bool} (h : Rn c s x) (h2 : x = false → Rn c' s y) : Rn (orT c c') s (x || y) := by
  unfold Rn orT
  rw [h.bind]
  cases x with
  | true => rfl
  | false => exact h2 rfl
theorem rn_ifE {c : M Bool} {r : R} (h : Rn c s x) (h1 : x = true → Rn fa s r) (h2 : x = false → Rn fb s r) : Rn (rIfE c fa fb) s r := by
  unfold Rn rIfE
  rw [h.bind]
  cases x with
  | true => exact h1 rfl
  | false => exact h2 rfl
/-! ### arguments -/
theorem ra_nil : Rn rA0 s [] := rfl
theorem ra_cons {r : R} {rs : List R} (h1 : Rn fa s r) (h2 : Rn fr s rs) : Rn (rAc fa fr) s (r :: rs) := by
  unfold Rn rAc
  rw [h1.bind, h2.bind]
  rfl
theorem rn_c {g : List R → M R} {rs : List R} {z : R} (h1 : Rn fr s rs) (h : g rs s = some (.ok z s)) : Rn (rC g fr) s z := by
  unfold Rn rC
  rw [h1.bind, h]
def datsR (es : List D) : List R := es.map .dat
theorem frzAll_dats : ∀ es : List D, frzAll (datsR es) s = some (.ok es s)
  | [] => rfl
  | d :: es => by
    show (frz (.dat d) >>= fun d => frzAll (datsR es) >>= fun ds => (pure (d :: ds) : M (List D))) s = _
    rw [show (frz (.dat d) >>= fun d => frzAll (datsR es) >>= fun ds => (pure (d :: ds) : M (List D))) s = (frzAll (datsR es) >>= fun ds => (pure (d :: ds) : M (List D))) s from rfl, run_bind, frzAll_dats es]
    rfl
theorem ev_tup (h1 : Rn fr s (datsR es)) (h : es.length ≤ 16777216) : Ev (rC mkT fr) s (.tuple es) := rn_c h1 (by
  unfold mkT lenOk
  rw [run_bind, run_need, if_pos (decide_eq_true (by simpa [datsR] using h))]
  simp only
  rw [run_bind, frzAll_dats]
  rfl)
theorem rn_lst (h1 : Rn fr s (datsR es)) (h : es.length ≤ 16777216) : Rn (rC mkL fr) s (.new (.list es)) := rn_c h1 (by
  unfold mkL lenOk
  rw [run_bind, run_need, if_pos (decide_eq_true (by simpa [datsR] using h))]
  simp only
  rw [run_bind, frzAll_dats]
  rfl)
theorem prep_dats : ∀ (es : List D) (ms : List Bool), prep ms (datsR es) s = some (.ok (datsR es) s)
  | [], ms => by cases ms <;> rfl
  | d :: es, ms => by
    show (prepA (ms.headD false) (.dat d) >>= fun q => prep ms.tail (datsR es) >>= fun qs => (pure (q :: qs) : M (List R))) s = _
    rw [run_bind, show prepA (ms.headD false) (.dat d) s = some (.ok (.dat d) s) by cases ms.headD false <;> rfl]
    simp only
    rw [run_bind, prep_dats es]
    rfl
theorem argsOf_dats : ∀ es : List D, argsOf s (datsR es) = some (es.map fun d => (false, d))
  | [] => rfl
  | d :: es => by
    show (match argOf s (.dat d), argsOf s (datsR es) with | some a, some as => some (a :: as) | _, _ => none) = _
    rw [argsOf_dats es]
    rfl
theorem lentSlots_dats : ∀ es : List D, lentSlots (datsR es) (es.map fun d => (false, d)) = []
  | [] => rfl
  | d :: es => lentSlots_dats es
theorem nwOf_dats : ∀ (es : List D) (outs : List D) (i : Nat), nwOf (datsR es) (es.map fun d => (false, d)) outs i = none
  | [], outs, i => rfl
  | d :: es, outs, i => nwOf_dats es outs i
theorem updF_none : ∀ (ds : DS) (i : Nat) (nw : Nat → Option D), (∀ j, nw j = none) → updF nw i ds = ds
  | [], i, nw, _ => rfl
  | x :: r, i, nw, h => by
    unfold updF
    rw [h i, updF_none r (i + 1) nw h]
/-- a call with plain data alone -/
theorem rn_call {f : FD} {ms : List Bool} {r : RR} {outs : List D} (h1 : Rn fr s (datsR es)) (h : f (es.map fun d => (false, d)) = some (.ok r outs)) : Rn (rC (callD f ms) fr) s (resR r) := rn_c h1 (by
  unfold callD
  refine (bind_ok (prep_dats es ms)).trans ?_
  rw [argsOf_dats]
  simp only
  rw [lentSlots_dats, if_pos List.nodup_nil, h]
  simp only
  rw [updF_none _ _ _ (nwOf_dats es outs)])
theorem ev_call {f : FD} {ms : List Bool} {outs : List D} (h1 : Rn fr s (datsR es)) (h : f (es.map fun d => (false, d)) = some (.ok (.dat d) outs)) : Ev (rC (callD f ms) fr) s d := rn_call h1 h
/-! ### built-ins -/
theorem ev_len {r : R} (h1 : Rn fr s [r]) (e : dOf s r = some a) (hs : seqOf a = some es) : Ev (rC gLen fr) s (.int es.length) := rn_c h1 (by
  unfold gLen
  rw [show (one [r] >>= fun r => dat r >>= fun d => _ : M R) s = (dat r >>= fun d => _ : M R) s from rfl, run_bind, run_dat, e]
  simp only
  rw [hs]
  rfl)
theorem ev_sum {r : R} {ns : List Int} (h1 : Rn fr s [r]) (e : dOf s r = some (.list (ns.map .int))) : Ev (rC gSum fr) s (.int ns.sum) := rn_c h1 (by
  unfold gSum
  rw [show (one [r] >>= fun r => dat r >>= fun d => _ : M R) s = (dat r >>= fun d => _ : M R) s from rfl, run_bind, run_dat, e]
  simp only
  rw [intsOf_map]
  rfl)
theorem ev_min {r : R} {ns : List Int} (h1 : Rn fr s [r]) (e : dOf s r = some (.list (ns.map .int))) (hne : ns ≠ []) : Ev (rC gMin fr) s (.int (minL ns)) := rn_c h1 (by
  show (dat r >>= fun d => _ : M R) s = _
  rw [run_bind, run_dat, e]
  simp only
  rw [intsOf_map]
  cases ns with
  | nil => exact absurd rfl hne
  | cons x r => rfl)
theorem ev_max {r : R} {ns : List Int} (h1 : Rn fr s [r]) (e : dOf s r = some (.list (ns.map .int))) (hne : ns ≠ []) : Ev (rC gMax fr) s (.int (maxL ns)) := rn_c h1 (by
  show (dat r >>= fun d => _ : M R) s = _
  rw [run_bind, run_dat, e]
  simp only
  rw [intsOf_map]
  cases ns with
  | nil => exact absurd rfl hne
  | cons x r => rfl)
theorem ev_max2 (h1 : Rn fr s [.dat (.int i), .dat (.int j)]) : Ev (rC gMax fr) s (.int (max i j)) := rn_c h1 (by
  show some (Res.ok (R.dat (.int (if j > i then j else i))) s) = _
  rw [show (if j > i then j else i) = max i j by omega])
theorem ev_min2 (h1 : Rn fr s [.dat (.int i), .dat (.int j)]) : Ev (rC gMin fr) s (.int (min i j)) := rn_c h1 (by
  show some (Res.ok (R.dat (.int (if j < i then j else i))) s) = _
  rw [show (if j < i then j else i) = min i j by omega])
theorem ev_tupOf {r : R} (h1 : Rn fr s [r]) (e : dOf s r = some (.list es)) : Ev (rC gTuple fr) s (.tuple es) := rn_c h1 (by
  show (dat r >>= fun d => _ : M R) s = _
  rw [run_bind, run_dat, e]
  rfl)
theorem ev_tupOfT {r : R} (h1 : Rn fr s [r]) (e : dOf s r = some (.tuple es)) : Ev (rC gTuple fr) s (.tuple es) := rn_c h1 (by
  show (dat r >>= fun d => _ : M R) s = _
  rw [run_bind, run_dat, e]
  rfl)
end
end Den
/-! PC: what statements, comprehensions, defs come to -/
namespace Den
open PySem PyProof.Rows L2
section
variable {s s1 s2 : DS} {f : M R} {f1 f2 : M Fl} {r : R} {d e : D} {x : Bool}
theorem then_nx (h : f1 s = some (.ok .nx s1)) : thenS f1 f2 s = f2 s1 := by
  unfold thenS
  rw [run_bind, h]
theorem then_rt (h : f1 s = some (.ok (.rt r) s1)) : thenS f1 f2 s = some (.ok (.rt r) s1) := by
  unfold thenS
  rw [run_bind, h]
  rfl
theorem st_if {c : M Bool} (h : Rn c s x) : rIf c f1 f2 s = if x then f1 s else f2 s := by
  unfold rIf
  rw [h.bind, run_ite]
theorem st_ret (h : Rn f s r) : rRet f s = some (.ok (.rt r) s) := by
  unfold rRet
  rw [h.bind]
  rfl
theorem st_asg {g : R → M Unit} (h : Rn f s r) (hg : g r s = some (.ok () s1)) : rAsg f g s = some (.ok .nx s1) := by
  unfold rAsg
  rw [h.bind, run_bind, hg]
  rfl
theorem st_asgM {g : R → M Unit} (h : f s = some (.ok r s2)) (hg : g r s2 = some (.ok () s1)) : rAsg f g s = some (.ok .nx s1) := by
  unfold rAsg
  rw [run_bind, h]
  simp only
  rw [run_bind, hg]
  rfl
theorem st_setF {i : Nat} (h : Rn f s (.dat d)) (hg : putSl i (.dat d) s = some (.ok () s1)) : setF i f s = some (.ok .nx s1) := by
  unfold setF
  rw [h.bind]
  refine (bind_ok (a := d) rfl).trans ?_
  rw [run_bind, hg]
  rfl
theorem st_setN {i : Nat} (h : Rn f s (.new d)) (hg : putSl i (.dat d) s = some (.ok () s1)) : setF i f s = some (.ok .nx s1) := by
  unfold setF
  rw [h.bind]
  refine (bind_ok (a := d) rfl).trans ?_
  rw [run_bind, hg]
  rfl
theorem st_expr (h : f s = some (.ok r s1)) : rExpr f s = some (.ok .nx s1) := by
  unfold rExpr
  rw [run_bind, h]
  rfl
/-! ### comprehensions -/
theorem lc_map {vs : List Nat} {fi : M (List D)} {g : R → M Unit} {fe : M R} {items : List D} (h : D → D) (hfi : Rn fi s items) (ok : okSlots vs s = true) (hl : items.length ≤ 16777216)
    (hb : ∀ d ∈ items, ∃ s2, wipeD s2 vs = wipeD s vs ∧ g (.dat d) (wipeD s vs) = some (.ok () s2) ∧ Rn fe s2 (.dat (h d))) : Rn (lcD vs fi g (pure true) fe) s (.new (.list (items.map h))) := by
  have q := lc_run (vs := vs) (fi := fi) (g := g) (ft := pure true) (fe := fe) (s := s) (items := items) (fun d => some (h d)) hfi ok hl fun d hd => by
    obtain ⟨s2, e, e1, e2⟩ := hb d hd
    refine ⟨s2, e, ?_⟩
    unfold lcBody
    rw [run_bind, e1]
    simp only
    refine (bind_ok (a := true) rfl).trans ?_
    rw [if_pos rfl, e2.bind]
    rfl
  rw [List.filterMap_eq_map'] at q
  exact q
theorem lc_filter {vs : List Nat} {fi : M (List D)} {g : R → M Unit} {ft : M Bool} {fe : M R} {items : List D} (p : D → Bool) (h : D → D) (hfi : Rn fi s items) (ok : okSlots vs s = true) (hl : items.length ≤ 16777216)
    (hb : ∀ d ∈ items, ∃ s2, wipeD s2 vs = wipeD s vs ∧ g (.dat d) (wipeD s vs) = some (.ok () s2) ∧ Rn ft s2 (p d) ∧ (p d = true → Rn fe s2 (.dat (h d)))) : Rn (lcD vs fi g ft fe) s (.new (.list ((items.filter p).map h))) := by
  have q := lc_run (vs := vs) (fi := fi) (g := g) (ft := ft) (fe := fe) (s := s) (items := items) (fun d => if p d then some (h d) else none) hfi ok hl fun d hd => by
    obtain ⟨s2, e, e1, e2, e3⟩ := hb d hd
    refine ⟨s2, e, ?_⟩
    unfold lcBody
    rw [run_bind, e1]
    simp only
    rw [e2.bind]
    cases hp : p d with
    | false => rfl
    | true =>
      simp only [if_true]
      rw [(e3 hp).bind]
      rfl
  have e : ∀ l : List D, l.filterMap (fun d => if p d then some (h d) else none) = (l.filter p).map h := by
    intro l
    induction l with
    | nil => rfl
    | cons a r ih =>
      rw [List.filterMap_cons, List.filter_cons]
      cases hp : p a with
      | false => simp [ih]
      | true => simp [ih]
  rw [e] at q
  exact q
/-! ### what is walked -/
theorem itemsOf_dat {es : List D} (hs : seqOf d = some es) : Rn (itemsOf (.dat d)) s es := by
  unfold Rn itemsOf
  refine (bind_ok (a := d) rfl).trans ?_
  rw [hs]
  rfl
theorem it_seq {es : List D} (h : Rn f s (.dat d)) (hs : seqOf d = some es) : Rn (rItems f) s es := by
  unfold Rn rItems
  rw [h.bind]
  exact itemsOf_dat hs
theorem it_new {es : List D} (h : Rn f s (.new d)) (hs : seqOf d = some es) : Rn (rItems f) s es := by
  unfold Rn rItems
  rw [h.bind]
  unfold itemsOf
  refine (bind_ok (a := d) rfl).trans ?_
  rw [hs]
  rfl
theorem it_range1 {fr : M (List R)} {n : Nat} (h : Rn fr s [.dat (.int n)]) (hn : n < 4611686018427387904) : Rn (rGo rng1 fr) s (upFrom 0 n) := by
  unfold Rn rGo
  rw [h.bind]
  have e : need (in62 n) s = some (.ok () s) := by
    have h1 : -4611686018427387904 ≤ (n : Int) ∧ (n : Int) < 4611686018427387904 := ⟨by omega, by omega⟩
    have h2 : in62 n = true := by
      unfold in62
      simp only [decide_eq_true_eq]
      exact h1
    rw [run_need, h2]
    exact if_pos rfl
  have e2 : (n : Int).toNat = n := Int.toNat_natCast n
  unfold rng1
  rw [bind_ok (m := one [R.dat (.int (n : Int))]) (a := R.dat (.int n)) (s' := s) rfl, bind_ok (m := asInt (R.dat (.int (n : Int)))) (a := (n : Int)) (s' := s) rfl, bind_ok e, e2]
  exact run_pure _ _
theorem it_enum {fr : M (List R)} {es : List D} (h : Rn fr s [.dat d]) (hs : seqOf d = some es) : Rn (rGo enumOf fr) s (enumL 0 es) := by
  unfold Rn rGo
  rw [h.bind]
  have q : enumOf [.dat d] s = (itemsOf (.dat d) >>= fun es => (pure (enumL 0 es) : M (List D))) s := rfl
  rw [q, Rn.bind (itemsOf_dat hs)]
  exact run_pure _ _
/-! ### defs -/
theorem outs_dats : ∀ (es : List D) (k : Nat), outsFrom s k (es.map fun d => (false, d)) = some []
  | [], _ => rfl
  | d :: es, k => outs_dats es (k + 1)
theorem runF_dat {n : Nat} {b : M Fl} {es : List D} (h : b (ds0 n (es.map fun d => (false, d))) = some (.ok (.rt (.dat d)) s1)) : runF n b (es.map fun d => (false, d)) = some (.ok (.dat d) []) := by
  unfold runF
  rw [h]
  simp only [finD, outsOf, outs_dats]
theorem runF_new {n : Nat} {b : M Fl} {es : List D} (h : b (ds0 n (es.map fun d => (false, d))) = some (.ok (.rt (.new d)) s1)) : runF n b (es.map fun d => (false, d)) = some (.ok (.own d) []) := by
  unfold runF
  rw [h]
  simp only [finD, outsOf, outs_dats]
theorem runF_at {n i : Nat} {b : M Fl} {es : List D} (h : b (ds0 n (es.map fun d => (false, d))) = some (.ok (.rt (.at i)) s1)) (hi : s1[i]? = some (some (.own d))) : runF n b (es.map fun d => (false, d)) = some (.ok (.own d) []) := by
  unfold runF
  rw [h]
  simp only [finD, outsOf, outs_dats, hi]
end
/-! ### is_number -/
def isNum (v : D) (l m : Int) : Bool := match v with
  | .int i => decide (l ≤ i) && decide (i ≤ m)
  | _ => false
theorem tyD_dict (kvs : List (D × D)) : tyD (.dict kvs) = "list" ∨ tyD (.dict kvs) = "dict" := by
  unfold tyD
  split <;> simp_all
theorem isInt_of {v : D} (h : isT "int" v = true) (h2 : isT "bool" v = false) : ∃ i, v = .int i := by
  cases v with
  | int i => exact ⟨i, rfl⟩
  | dict kvs =>
    rcases tyD_dict kvs with e | e <;> simp [isT, e] at h
  | _ => simp_all [isT, tyD]
theorem isNum_eq (v : D) (l m : Int) : (isT "int" v && (!isT "bool" v && isNum v l m)) = isNum v l m := by
  cases v with
  | int i => simp [isT, tyD, isNum]
  | dict kvs => simp [isNum]
  | _ => simp [isNum]
theorem run_is_number (v : D) (l m : Int) : f_is_number [(false, v), (false, .int l), (false, .int m)] = some (.ok (.dat (.bool (isNum v l m))) []) := by
  refine runF_dat (es := [v, .int l, .int m]) (s1 := ds0 3 [(false, v), (false, .int l), (false, .int m)]) (st_ret ?_)
  have h := ev_and (s := ds0 3 [(false, v), (false, .int l), (false, .int m)]) (y := !isT "bool" v && isNum v l m) (ev_isi (T := "int") (fa := getSl 0) (d := v) (rn_get (sv := .dat v) rfl) rfl) (fb := andD (rNotE (rIsi "bool" (getSl 0))) (chain (getSl 1) (getSl 0) (getSl 2) gLe gLe)) fun h1 =>
    ev_and (ev_not (ev_isi (T := "bool") (d := v) (rn_get (sv := .dat v) rfl) rfl)) fun h2 => by
      obtain ⟨i, rfl⟩ := isInt_of h1 (by simpa using h2)
      exact ev_leLe (ev_get rfl) (ev_get rfl) (ev_get rfl)
  rw [isNum_eq] at h
  exact h
end Den
/-! PD: tasks as data; last_bound -/
namespace Den
open PySem PyProof.Rows L2
theorem for_rel {α β : Type} (ι : β → D) (f : α → β → α) (Rl : α → DS → Prop) {g : R → M Unit} {fb : M Fl} : ∀ (its : List β) (x : α) (s : DS), Rl x s → (∀ b ∈ its, ∀ x s, Rl x s → ∃ s1 s2, g (.dat (ι b)) s = some (.ok () s1) ∧ fb s1 = some (.ok .nx s2) ∧ Rl (f x b) s2) →
    ∃ s', forD g fb (its.map ι) s = some (.ok .nx s') ∧ Rl (its.foldl f x) s'
  | [], x, s, hx, _ => ⟨s, rfl, hx⟩
  | b :: r, x, s, hx, hb => by
    obtain ⟨s1, s2, h1, h2, h3⟩ := hb b List.mem_cons_self x s hx
    obtain ⟨s', e, q⟩ := for_rel ι f Rl r (f x b) s2 h3 fun c hc => hb c (List.mem_cons_of_mem _ hc)
    refine ⟨s', ?_, q⟩
    rw [List.map_cons]
    unfold forD
    rw [run_bind, h1]
    simp only
    rw [run_bind, h2]
    exact e
structure Tk where
  par : Option Nat
  fr : Int
  up : Int
def nD (n : Nat) : D := .int n
def parD : Option Nat → D
  | none => .none
  | some q => nD q
def tkD (t : Tk) : D := .tuple [parD t.par, .int t.fr, .int t.up]
def tksD (ts : List Tk) : D := .tuple (ts.map tkD)
def natsD (l : List Nat) : D := .tuple (l.map nD)
def upOf (ts : List Tk) (c : Nat) : Int := match ts[c]? with
  | some t => t.up
  | none => 0
def frOf (ts : List Tk) (c : Nat) : Int := match ts[c]? with
  | some t => t.fr
  | none => 0
def intAt (bs : List Int) (c : Nat) : Int := (bs[c]?).getD 0
theorem atI_map {α : Type} {f : α → D} {l : List α} {c : Nat} (h : c < l.length) : atI (l.map f) (c : Int) = some (f l[c]) := atI_nat (by rw [List.getElem?_map, List.getElem?_eq_getElem h]; rfl)
section
variable {s : DS} {fa fb : M R}
/-- tasks[c] -/
theorem ev_tk {ts : List Tk} {c : Nat} (h1 : Ev fa s (tksD ts)) (h2 : Ev fb s (nD c)) (h : c < ts.length) : Ev (rO gIx fa fb) s (tkD ts[c]) := ev_ix h1 h2 rfl (atI_map h)
/-- tasks[c][2] -/
theorem ev_up {ts : List Tk} {c : Nat} (h1 : Ev fa s (tksD ts)) (h2 : Ev fb s (nD c)) (h : c < ts.length) : Ev (rO gIx (rO gIx fa fb) (rI 2)) s (.int (upOf ts c)) := by
  have e : upOf ts c = ts[c].up := by
    unfold upOf
    rw [List.getElem?_eq_getElem h]
  rw [e]
  exact ev_ix (ev_tk h1 h2 h) ev_int rfl rfl
/-- tasks[c][1] -/
theorem ev_fr {ts : List Tk} {c : Nat} (h1 : Ev fa s (tksD ts)) (h2 : Ev fb s (nD c)) (h : c < ts.length) : Ev (rO gIx (rO gIx fa fb) (rI 1)) s (.int (frOf ts c)) := by
  have e : frOf ts c = ts[c].fr := by
    unfold frOf
    rw [List.getElem?_eq_getElem h]
  rw [e]
  exact ev_ix (ev_tk h1 h2 h) ev_int rfl rfl
/-- bs[c] of whole numbers -/
theorem ev_at {bs : List Int} {d : D} {c : Nat} (h1 : Ev fa s d) (hs : seqOf d = some (bs.map .int)) (h2 : Ev fb s (nD c)) (h : c < bs.length) : Ev (rO gIx fa fb) s (.int (intAt bs c)) := by
  have e : intAt bs c = bs[c] := by
    unfold intAt
    rw [List.getElem?_eq_getElem h]
    rfl
  rw [e]
  exact ev_ix h1 h2 hs (atI_map h)
end
theorem map_nD_int (f : D → D) (g : Nat → Int) (l : List Nat) (h : ∀ c ∈ l, f (nD c) = .int (g c)) : (l.map nD).map f = (l.map g).map .int := by
  rw [List.map_map, List.map_map]
  exact List.map_congr_left h
def upD : List Tk → D → D := fun ts d => match d with
  | .int i => .int (upOf ts i.toNat)
  | _ => .none
theorem run_last_bound {ts : List Tk} {bs : List Int} {sm : List Nat} (hb : bs.length = ts.length) (hs : ∀ c ∈ sm, c < ts.length) (ne : sm ≠ []) (hl : sm.length ≤ 16777216) :
    f_last_bound [(false, tksD ts), (false, .list (bs.map .int)), (false, natsD sm)] = some (.ok (.dat (.int (minL (sm.map fun c => (sm.map (upOf ts)).sum - upOf ts c + intAt bs c)))) []) := by
  let S (h c : Option SV) : DS := [some (.dat (tksD ts)), some (.dat (.list (bs.map .int))), some (.dat (natsD sm)), h, c]
  have e1 : Rn (lcD [4] (rItems (getSl 2)) (putSl 4) (pure true) (rO gIx (rO gIx (getSl 0) (getSl 4)) (rI 2))) (S none none) (.new (.list ((sm.map (upOf ts)).map .int))) := by
    have q := lc_map (vs := [4]) (fi := rItems (getSl 2)) (g := putSl 4) (fe := rO gIx (rO gIx (getSl 0) (getSl 4)) (rI 2)) (s := S none none) (items := sm.map nD) (upD ts) (it_seq (ev_get (d := natsD sm) rfl) rfl) rfl (by simpa using hl) fun d hd => by
      obtain ⟨c, hc, rfl⟩ := List.mem_map.mp hd
      exact ⟨S none (some (.dat (nD c))), rfl, rfl, ev_up (ev_get rfl) (ev_get rfl) (hs c hc)⟩
    rw [map_nD_int _ (upOf ts) sm fun c _ => rfl] at q
    exact q
  have e2 : Rn (lcD [4] (rItems (getSl 2)) (putSl 4) (pure true) (rO gAdd (rO gSub (getSl 3) (rO gIx (rO gIx (getSl 0) (getSl 4)) (rI 2))) (rO gIx (getSl 1) (getSl 4)))) (S (some (.dat (.int (sm.map (upOf ts)).sum))) none) (.new (.list ((sm.map fun c => (sm.map (upOf ts)).sum - upOf ts c + intAt bs c).map .int))) := by
    have q := lc_map (vs := [4]) (fi := rItems (getSl 2)) (g := putSl 4) (fe := rO gAdd (rO gSub (getSl 3) (rO gIx (rO gIx (getSl 0) (getSl 4)) (rI 2))) (rO gIx (getSl 1) (getSl 4))) (s := S (some (.dat (.int (sm.map (upOf ts)).sum))) none) (items := sm.map nD)
      (fun d => match d with | .int i => .int ((sm.map (upOf ts)).sum - upOf ts i.toNat + intAt bs i.toNat) | _ => .none) (it_seq (ev_get (d := natsD sm) rfl) rfl) rfl (by simpa using hl) fun d hd => by
      obtain ⟨c, hc, rfl⟩ := List.mem_map.mp hd
      exact ⟨S (some (.dat (.int (sm.map (upOf ts)).sum))) (some (.dat (nD c))), rfl, rfl, ev_add (ev_sub (ev_get rfl) (ev_up (ev_get rfl) (ev_get rfl) (hs c hc))) (ev_at (ev_get rfl) rfl (ev_get rfl) (by rw [hb]; exact hs c hc))⟩
    rw [map_nD_int _ (fun c => (sm.map (upOf ts)).sum - upOf ts c + intAt bs c) sm fun c _ => rfl] at q
    exact q
  refine runF_dat (n := 5) (b := b_last_bound) (es := [tksD ts, .list (bs.map .int), natsD sm]) (s1 := S (some (.dat (.int (sm.map (upOf ts)).sum))) none) ?_
  unfold b_last_bound
  refine (then_nx (s := S none none) (s1 := S (some (.dat (.int (sm.map (upOf ts)).sum))) none) (st_asg (r := .dat (.int (sm.map (upOf ts)).sum)) (ev_sum (ra_cons e1 ra_nil) rfl) rfl)).trans ?_
  exact st_ret (ev_min (ra_cons e2 ra_nil) rfl (by simpa using ne))
end Den
/-! PE: is_shown, tops_in -/
namespace Den
open PySem PyProof.Rows L2
theorem enumL_range (es : List D) : enumL 0 es = (List.range es.length).map fun i => .tuple [nD i, (es[i]?).getD .none] := by
  apply List.ext_getElem?
  intro i
  by_cases h : i < es.length
  · have h2 : i < (enumL 0 es).length := by rw [enumL_length]; exact h
    obtain ⟨e, e1, e2⟩ := enumL_get (List.getElem?_eq_getElem h2)
    rw [List.getElem?_eq_getElem h2, e2, List.getElem?_map, List.getElem?_range h]
    simp [nD, e1]
  · rw [List.getElem?_eq_none (by rw [enumL_length]; omega), List.getElem?_eq_none (by simp; omega)]
def parOf (ts : List Tk) (c : Nat) : Option Nat := (ts[c]?).bind (·.par)
def kids (ts : List Tk) (i : Nat) : List Nat := (List.range ts.length).filter fun c => parOf ts c == some i
def topsOf (ts : List Tk) : List Nat := (List.range ts.length).filter fun c => (parOf ts c).isNone
def belowL (ts : List Tk) : List D := (List.range ts.length).map fun i => natsD (kids ts i)
theorem kids_lt {ts : List Tk} {i c : Nat} (h : c ∈ kids ts i) : c < ts.length := List.mem_range.mp (List.mem_filter.mp h).1
theorem kids_len (ts : List Tk) (i : Nat) : (kids ts i).length ≤ ts.length := by
  have := List.length_filter_le (fun c => parOf ts c == some i) (List.range ts.length)
  rw [List.length_range] at this
  exact this
section
variable {s : DS} {fa fb : M R}
theorem ev_kids {ts : List Tk} {d : D} {i : Nat} (h1 : Ev fa s d) (hs : seqOf d = some (belowL ts)) (h2 : Ev fb s (nD i)) (h : i < ts.length) : Ev (rO gIx fa fb) s (natsD (kids ts i)) :=
  ev_ix h1 h2 hs (atI_nat (by unfold belowL; rw [List.getElem?_map, List.getElem?_range h]; rfl))
end
def shownB (ts : List Tk) (bs : List Int) (i : Nat) (sm : List Nat) : Bool :=
  if sm = [] then decide (intAt bs i ≤ ((kids ts i).map (upOf ts)).sum + frOf ts i) else decide (intAt bs i ≤ minL (sm.map fun c => (sm.map (upOf ts)).sum - upOf ts c + intAt bs c))
theorem run_is_shown {ts : List Tk} {bs : List Int} {sm : List Nat} {i : Nat} (hi : i < ts.length) (hn : ts.length ≤ 16777216) (hb : bs.length = ts.length) (hs : ∀ c ∈ sm, c < ts.length) (hl : sm.length ≤ 16777216) :
    f_is_shown [(false, tksD ts), (false, .tuple (belowL ts)), (false, .list (bs.map .int)), (false, nD i), (false, natsD sm)] = some (.ok (.dat (.bool (shownB ts bs i sm))) []) := by
  let S (c : Option SV) : DS := [some (.dat (tksD ts)), some (.dat (.tuple (belowL ts))), some (.dat (.list (bs.map .int))), some (.dat (nD i)), some (.dat (natsD sm)), c]
  refine runF_dat (n := 6) (b := b_is_shown) (es := [tksD ts, .tuple (belowL ts), .list (bs.map .int), nD i, natsD sm]) (s1 := S none) ?_
  unfold b_is_shown
  have hc : Rn (rT (rO gEq (rC gLen (rAc (getSl 4) rA0)) (rI 0))) (S none) (decide (sm = [])) := by
    have q := rt_val (rn_eq (s := S none) (ev_len (ra_cons (ev_get (k := 4) (d := natsD sm) rfl) ra_nil) rfl rfl) (ev_int (i := 0)) rfl rfl rfl rfl)
    have e : PyData.eqv (.int ((sm.map nD).length : Int)) (.int 0) = decide (sm = []) := by
      rw [List.length_map]
      cases sm with
      | nil => rfl
      | cons x r =>
        show decide (((x :: r).length : Int) = 0) = decide (x :: r = [])
        rw [decide_eq_false (show ¬ (((x :: r).length : Int) = 0) by rw [List.length_cons]; omega), decide_eq_false (by simp)]
    rw [e] at q
    exact q
  by_cases he : sm = []
  · have hc' : Rn _ (S none) true := (show decide (sm = []) = true from decide_eq_true he) ▸ hc
    have e1 : Rn (lcD [5] (rItems (rO gIx (getSl 1) (getSl 3))) (putSl 5) (pure true) (rO gIx (rO gIx (getSl 0) (getSl 5)) (rI 2))) (S none) (.new (.list (((kids ts i).map (upOf ts)).map .int))) := by
      have q := lc_map (vs := [5]) (fi := rItems (rO gIx (getSl 1) (getSl 3))) (g := putSl 5) (fe := rO gIx (rO gIx (getSl 0) (getSl 5)) (rI 2)) (s := S none) (items := (kids ts i).map nD) (upD ts) (it_seq (ev_kids (ev_get (d := .tuple (belowL ts)) rfl) rfl (ev_get rfl) hi) rfl) rfl (by have := kids_len ts i; simp; omega) fun d hd => by
        obtain ⟨c, hc, rfl⟩ := List.mem_map.mp hd
        exact ⟨S (some (.dat (nD c))), rfl, rfl, ev_up (ev_get rfl) (ev_get rfl) (kids_lt hc)⟩
      rw [map_nD_int _ (upOf ts) (kids ts i) fun c _ => rfl] at q
      exact q
    refine then_rt ((st_if hc').trans ?_)
    rw [if_pos rfl]
    have e : shownB ts bs i sm = decide (intAt bs i ≤ ((kids ts i).map (upOf ts)).sum + frOf ts i) := if_pos he
    rw [e]
    exact st_ret (ev_le (ev_at (ev_get (d := .list (bs.map .int)) rfl) rfl (ev_get rfl) (by rw [hb]; exact hi)) (ev_add (ev_sum (ra_cons e1 ra_nil) rfl) (ev_fr (ev_get rfl) (ev_get rfl) hi)))
  · have hc' : Rn _ (S none) false := (show decide (sm = []) = false from decide_eq_false he) ▸ hc
    refine (then_nx (s1 := S none) ((st_if hc').trans ?_)).trans ?_
    · rfl
    · have e : shownB ts bs i sm = decide (intAt bs i ≤ minL (sm.map fun c => (sm.map (upOf ts)).sum - upOf ts c + intAt bs c)) := if_neg he
      rw [e]
      exact st_ret (ev_le (ev_at (ev_get (d := .list (bs.map .int)) rfl) rfl (ev_get rfl) (by rw [hb]; exact hi)) (ev_call (es := [tksD ts, .list (bs.map .int), natsD sm]) (ra_cons (ev_get rfl) (ra_cons (ev_get rfl) (ra_cons (ev_get rfl) ra_nil))) (run_last_bound hb hs he hl)))
theorem run_tops_in {ts : List Tk} (hn : ts.length ≤ 16777216) : f_tops_in [(false, tksD ts)] = some (.ok (.dat (natsD (topsOf ts))) []) := by
  let S (a b : Option SV) : DS := [some (.dat (tksD ts)), a, b]
  refine runF_dat (n := 3) (b := b_tops_in) (es := [tksD ts]) (s1 := S none none) ?_
  unfold b_tops_in
  have q := lc_filter (vs := [1, 2]) (fi := rGo enumOf (rAc (getSl 0) rA0)) (g := unT 2 (gsCons (putSl 1) (gsCons (putSl 2) gsNil))) (ft := rT (rO (gIsN false) (rO gIx (getSl 2) (rI 0)) rN)) (fe := getSl 1) (s := S none none) (items := enumL 0 (ts.map tkD))
    (fun d => match d with | .tuple [.int i, _] => (parOf ts i.toNat).isNone | _ => false) (fun d => match d with | .tuple [x, _] => x | _ => .none)
    (it_enum (ra_cons (ev_get (d := tksD ts) rfl) ra_nil) rfl) rfl (by rw [enumL_length, List.length_map]; exact hn) fun d hd => by
      rw [enumL_range, List.length_map] at hd
      obtain ⟨i, hi, rfl⟩ := List.mem_map.mp hd
      have hi := List.mem_range.mp hi
      have e : ((ts.map tkD)[i]?).getD .none = tkD ts[i] := by
        rw [List.getElem?_map, List.getElem?_eq_getElem hi]
        rfl
      rw [e]
      refine ⟨S (some (.dat (nD i))) (some (.dat (tkD ts[i]))), rfl, rfl, ?_, fun _ => ev_get rfl⟩
      have e2 : isNone (parD ts[i].par) = (parOf ts i).isNone := by
        unfold parOf
        rw [List.getElem?_eq_getElem hi]
        show isNone (parD ts[i].par) = ts[i].par.isNone
        cases ts[i].par <;> rfl
      have q := rt_val (ev_isN (s := S (some (.dat (nD i))) (some (.dat (tkD ts[i])))) (ev_ix (ev_get (k := 2) (d := tkD ts[i]) rfl) (ev_int (i := 0)) rfl (z := parD ts[i].par) rfl))
      rw [e2] at q
      exact q
  have e : ((enumL 0 (ts.map tkD)).filter (fun d => match d with | .tuple [.int i, _] => (parOf ts i.toNat).isNone | _ => false)).map (fun d => match d with | .tuple [x, _] => x | _ => .none) = (topsOf ts).map nD := by
    rw [enumL_range, List.length_map, List.filter_map, List.map_map]
    rfl
  rw [e] at q
  exact st_ret (ev_tupOf (ra_cons q ra_nil) rfl)
end Den
/-! PF: children_in -/
namespace Den
open PySem PyProof.Rows L2
theorem rn_star {s : DS} {fe : M R} {fr : M (List R)} {r : R} {d : D} {es : List D} {xs : List R} (h : Rn fe s r) (e : dOf s r = some d) (hs : seqOf d = some es) (h2 : Rn fr s xs) : Rn (starD fe fr) s (es.map .dat ++ xs) := by
  unfold Rn starD
  rw [h.bind, run_bind, run_dat, e]
  simp only
  rw [hs]
  simp only
  rw [h2.bind]
  rfl
theorem ixN_nat {n q : Nat} (h : q < n) : ixN n (q : Int) = some q := by
  unfold ixN
  rw [if_pos (by omega), if_pos (by omega)]
  simp
theorem for_range {α : Type} (ι : Nat → D) (f : α → Nat → α) (Rl : Nat → α → DS → Prop) {g : R → M Unit} {fb : M Fl} : ∀ (n m : Nat) (x : α) (s : DS), Rl m x s → (∀ i, m ≤ i → i < m + n → ∀ x s, Rl i x s → ∃ s1 s2, g (.dat (ι i)) s = some (.ok () s1) ∧ fb s1 = some (.ok .nx s2) ∧ Rl (i + 1) (f x i) s2) →
    ∃ s', forD g fb ((List.range' m n).map ι) s = some (.ok .nx s') ∧ Rl (m + n) ((List.range' m n).foldl f x) s'
  | 0, m, x, s, hx, _ => ⟨s, rfl, hx⟩
  | n + 1, m, x, s, hx, hb => by
    obtain ⟨s1, s2, h1, h2, h3⟩ := hb m (Nat.le_refl m) (by omega) x s hx
    obtain ⟨s', e, q⟩ := for_range ι f Rl n (m + 1) (f x m) s2 h3 fun i h1 h2 => hb i (by omega) (by omega)
    refine ⟨s', ?_, ?_⟩
    · rw [List.range'_succ, List.map_cons]
      unfold forD
      rw [run_bind, h1]
      simp only
      rw [run_bind, h2]
      exact e
    · rw [List.range'_succ, show m + (n + 1) = m + 1 + n by omega]
      exact q
def addKid (ts : List Tk) (fnd : List (List Nat)) (i : Nat) : List (List Nat) := match parOf ts i with
  | none => fnd
  | some q => fnd.set q ((fnd[q]?).getD [] ++ [i])
theorem kids_fold (ts : List Tk) : ∀ m : Nat, (List.range m).foldl (addKid ts) (List.replicate ts.length []) = (List.range ts.length).map fun j => (List.range m).filter fun c => parOf ts c == some j
  | 0 => by
    apply List.ext_getElem?
    intro i
    by_cases h : i < ts.length
    · rw [List.getElem?_map, List.getElem?_range h]
      simp [h]
    · rw [List.getElem?_eq_none (by simp; omega), List.getElem?_eq_none (by simp; omega)]
  | m + 1 => by
    rw [List.range_succ, List.foldl_append, kids_fold ts m]
    show addKid ts _ m = _
    unfold addKid
    cases hp : parOf ts m with
    | none =>
      simp only
      apply List.map_congr_left
      intro j _
      rw [List.filter_append]
      simp [hp]
    | some q =>
      simp only
      apply List.ext_getElem?
      intro i
      by_cases h : i < ts.length
      · rw [List.getElem?_set]
        by_cases hq : q = i
        · subst hq
          rw [if_pos rfl, if_pos (by simpa using h), List.getElem?_map, List.getElem?_map, List.getElem?_range h]
          simp [hp, List.filter_append]
        · rw [if_neg hq, List.getElem?_map, List.getElem?_map, List.getElem?_range h]
          simp [hp, hq, List.filter_append]
      · rw [List.getElem?_eq_none (by simp; omega), List.getElem?_eq_none (by simp; omega)]
theorem addKid_len (ts : List Tk) (fnd : List (List Nat)) (i : Nat) : (addKid ts fnd i).length = fnd.length := by
  unfold addKid
  split
  · rfl
  · exact List.length_set
/-- every parent is there -/
def ParOk (ts : List Tk) : Prop := ∀ c q, parOf ts c = some q → q < ts.length
theorem run_children_in {ts : List Tk} (hn : ts.length ≤ 16777215) (hp : ParOk ts) : f_children_in [(false, tksD ts)] = some (.ok (.dat (.tuple (belowL ts))) []) := by
  let S (f a b c : Option SV) : DS := [some (.dat (tksD ts)), f, a, b, c]
  have e0 : Rn (lcD [4] (rItems (getSl 0)) (putSl 4) (pure true) (rC mkT rA0)) (S none none none none) (.new (.list ((List.replicate ts.length []).map natsD))) := by
    have q := lc_map (vs := [4]) (fi := rItems (getSl 0)) (g := putSl 4) (fe := rC mkT rA0) (s := S none none none none) (items := ts.map tkD) (fun _ => .tuple []) (it_seq (ev_get (d := tksD ts) rfl) rfl) rfl (by rw [List.length_map]; omega) fun d hd =>
      ⟨S none none none (some (.dat d)), rfl, rfl, ev_tup (es := []) ra_nil (Nat.zero_le _)⟩
    have e : (ts.map tkD).map (fun _ => (.tuple [] : D)) = (List.replicate ts.length []).map natsD := by
      rw [List.map_map, List.map_replicate]
      exact List.map_const'
    rw [e] at q
    exact q
  have hstep : ∀ i ∈ List.range ts.length, ∀ x s, (x.length = ts.length ∧ (∀ l ∈ x, l.length ≤ i) ∧ ∃ a b c : Option D, s = S (some (.own (.list (x.map natsD)))) (a.map .dat) (b.map .dat) (c.map .dat)) →
      ∃ s1 s2, unT 2 (gsCons (putSl 2) (gsCons (unT 3 (gsCons (putSl 3) (gsCons (putSl 4) (gsCons (putSl 4) gsNil)))) gsNil)) (.dat (.tuple [nD i, ((ts.map tkD)[i]?).getD .none])) s = some (.ok () s1) ∧
        (rIf (rT (rO (gIsN true) (getSl 3) rN)) (rAsg (rC mkT (starD (rO gIx (getSl 1) (getSl 3)) (rAc (getSl 2) rA0))) (rSub (getSl 1) (getSl 3))) (pure .nx)) s1 = some (.ok .nx s2) ∧
        ((addKid ts x i).length = ts.length ∧ (∀ l ∈ addKid ts x i, l.length ≤ i + 1) ∧ ∃ a b c : Option D, s2 = S (some (.own (.list ((addKid ts x i).map natsD)))) (a.map .dat) (b.map .dat) (c.map .dat)) := by
    intro i hi x s ⟨hx, hl, a, b, c, es⟩
    have hi := List.mem_range.mp hi
    have e : ((ts.map tkD)[i]?).getD .none = tkD ts[i] := by
      rw [List.getElem?_map, List.getElem?_eq_getElem hi]
      rfl
    have hpar : parOf ts i = ts[i].par := by
      unfold parOf
      rw [List.getElem?_eq_getElem hi]
      rfl
    rw [e, es]
    let s1 : DS := S (some (.own (.list (x.map natsD)))) (some (.dat (nD i))) (some (.dat (parD ts[i].par))) (some (.dat (.int ts[i].up)))
    refine ⟨s1, ?_⟩
    cases hq : ts[i].par with
    | none =>
      refine ⟨s1, ?_, ?_, ?_⟩
      · cases a <;> cases b <;> cases c <;> rfl
      · refine (st_if (rt_val (ev_notN (ev_get (d := parD ts[i].par) rfl)))).trans ?_
        rw [hq]
        rfl
      · have ea : addKid ts x i = x := by
          unfold addKid
          rw [hpar, hq]
        rw [ea]
        exact ⟨hx, fun l h => Nat.le_succ_of_le (hl l h), some (nD i), some (parD ts[i].par), some (.int ts[i].up), rfl⟩
    | some q =>
      have hqn : q < ts.length := hp i q (by rw [hpar, hq])
      have hqx : q < x.length := by rw [hx]; exact hqn
      have ea : addKid ts x i = x.set q (x[q] ++ [i]) := by
        unfold addKid
        rw [hpar, hq]
        simp only
        rw [List.getElem?_eq_getElem hqx]
        rfl
      have hlq := hl x[q] (List.getElem_mem hqx)
      refine ⟨S (some (.own (.list ((x.set q (x[q] ++ [i])).map natsD)))) (some (.dat (nD i))) (some (.dat (parD ts[i].par))) (some (.dat (.int ts[i].up))), ?_, ?_, ?_⟩
      · cases a <;> cases b <;> cases c <;> rfl
      · refine (st_if (rt_val (ev_notN (ev_get (d := parD ts[i].par) rfl)))).trans ?_
        rw [show (!isNone (parD ts[i].par)) = true by rw [hq]; rfl, if_pos rfl]
        have e1 : Ev (rO gIx (getSl 1) (getSl 3)) s1 (natsD x[q]) := rn_ix (r := .at 1) (r' := .dat (nD q)) (a := .list (x.map natsD)) (i := q) (rn_get (sv := .own (.list (x.map natsD))) rfl) (ev_get (by show some (some (SV.dat (parD ts[i].par))) = _; rw [hq]; rfl)) rfl rfl rfl (atI_map hqx)
        have e2 : Ev (rC mkT (starD (rO gIx (getSl 1) (getSl 3)) (rAc (getSl 2) rA0))) s1 (natsD (x[q] ++ [i])) := by
          have q1 := rn_star e1 (d := natsD x[q]) rfl (es := x[q].map nD) rfl (ra_cons (ev_get (s := s1) (k := 2) (d := nD i) rfl) ra_nil)
          have q2 : (x[q].map nD).map R.dat ++ [R.dat (nD i)] = datsR ((x[q] ++ [i]).map nD) := by
            unfold datsR
            rw [List.map_append, List.map_append]
            rfl
          rw [q2] at q1
          exact ev_tup q1 (by rw [List.length_map, List.length_append]; show x[q].length + 1 ≤ _; omega)
        refine st_asg e2 ?_
        unfold rSub
        rw [bind_ok (m := getSl 1) (a := .at 1) (s' := s1) rfl, bind_ok (m := getSl 3) (a := .dat (nD q)) (s' := s1) (by show some (Res.ok (R.dat (parD ts[i].par)) s1) = _; rw [hq]; rfl)]
        unfold gSetIx
        rw [bind_ok (m := frz _) (a := natsD (x[q] ++ [i])) (s' := s1) rfl]
        have e3 : setD (.dat (nD q)) (natsD (x[q] ++ [i])) (.list (x.map natsD)) = some (.list ((x.set q (x[q] ++ [i])).map natsD)) := by
          show (ixN (x.map natsD).length (q : Int)).map (fun n => PyData.list ((x.map natsD).set n (natsD (x[q] ++ [i])))) = _
          rw [ixN_nat (by rw [List.length_map]; exact hqx), List.map_set]
          rfl
        show (match setD (.dat (nD q)) (natsD (x[q] ++ [i])) (.list (x.map natsD)) with | some c' => some (Res.ok () (s1.set 1 (some (.own c')))) | none => none) = _
        rw [e3]
        rfl
      · rw [ea]
        refine ⟨by rw [List.length_set]; exact hx, fun l h => ?_, some (nD i), some (parD ts[i].par), some (.int ts[i].up), rfl⟩
        rcases List.mem_or_eq_of_mem_set h with h | h
        · exact Nat.le_succ_of_le (hl l h)
        · rw [h, List.length_append]
          show x[q].length + 1 ≤ _
          omega
  obtain ⟨s', h1, h2, h3, a, b, c, h4⟩ := for_range (g := unT 2 (gsCons (putSl 2) (gsCons (unT 3 (gsCons (putSl 3) (gsCons (putSl 4) (gsCons (putSl 4) gsNil)))) gsNil))) (fb := rIf (rT (rO (gIsN true) (getSl 3) rN)) (rAsg (rC mkT (starD (rO gIx (getSl 1) (getSl 3)) (rAc (getSl 2) rA0))) (rSub (getSl 1) (getSl 3))) (pure .nx))
    (fun i => .tuple [nD i, ((ts.map tkD)[i]?).getD .none]) (addKid ts) (fun i x s => x.length = ts.length ∧ (∀ l ∈ x, l.length ≤ i) ∧ ∃ a b c : Option D, s = S (some (.own (.list (x.map natsD)))) (a.map .dat) (b.map .dat) (c.map .dat)) ts.length 0 (List.replicate ts.length []) (S (some (.own (.list ((List.replicate ts.length []).map natsD)))) none none none)
    ⟨List.length_replicate, (fun l h => by rw [List.eq_of_mem_replicate h]; exact Nat.le_refl _), none, none, none, rfl⟩ fun i _ hi x s h => hstep i (List.mem_range.mpr (by omega)) x s h
  rw [← List.range_eq_range'] at h1 h2 h4
  have eit : (List.range ts.length).map (fun i => (.tuple [nD i, ((ts.map tkD)[i]?).getD .none] : D)) = enumL 0 (ts.map tkD) := by
    rw [enumL_range, List.length_map]
  rw [eit] at h1
  rw [kids_fold] at h4
  have eb : ((List.range ts.length).map fun j => (List.range ts.length).filter fun c => parOf ts c == some j).map natsD = belowL ts := by
    unfold belowL
    rw [List.map_map]
    rfl
  rw [eb] at h4
  refine runF_dat (n := 5) (b := b_children_in) (es := [tksD ts]) (s1 := s') ?_
  unfold b_children_in
  refine (then_nx (s := S none none none none) (s1 := S (some (.own (.list ((List.replicate ts.length []).map natsD)))) none none none) (st_asg e0 rfl)).trans ?_
  have e5 : Rn (rGo enumOf (rAc (getSl 0) rA0)) (S (some (.own (.list ((List.replicate ts.length []).map natsD)))) none none none) (enumL 0 (ts.map tkD)) := it_enum (ra_cons (ev_get (d := tksD ts) rfl) ra_nil) rfl
  refine (then_nx (s1 := s') (e5.bind.trans h1)).trans ?_
  subst h4
  exact st_ret (ev_tupOf (ra_cons (rn_get (sv := .own (.list (belowL ts))) rfl) ra_nil) rfl)
end Den
/-! PG: in_turn -/
namespace Den
open PySem PyProof.Rows L2
def turnOf (u p : Nat → Int) (cs : List Nat) : List Nat := cs.mergeSort fun a b => leP (u a - p a, (a : Int)) (u b - p b, (b : Int))
theorem turn_perm (u p : Nat → Int) (cs : List Nat) : (turnOf u p cs).Perm cs := List.mergeSort_perm _ _
theorem turn_sorted (u p : Nat → Int) (cs : List Nat) : (turnOf u p cs).Pairwise fun a b => u a - p a ≤ u b - p b := by
  have := List.pairwise_mergeSort (le := fun (a b : Nat) => leP (u a - p a, (a : Int)) (u b - p b, (b : Int))) (fun a b c h1 h2 => by simp only [leP, decide_eq_true_eq] at *; omega) (fun a b => by simp only [leP, Bool.or_eq_true, decide_eq_true_eq]; omega) cs
  exact this.imp fun h => by
    simp only [leP, decide_eq_true_eq] at h
    omega
def keyD (u p : Nat → Int) (c : Nat) : D := .tuple [.int (u c - p c), nD c]
theorem sortBy_turn (u p : Nat → Int) (cs : List Nat) : sortBy (cs.map nD) (cs.map (keyD u p)) = (turnOf u p cs).map nD := by
  unfold sortBy
  rw [List.zip_map', ← List.map_mergeSort (r := fun a b => leP (u a - p a, (a : Int)) (u b - p b, (b : Int))) (f := fun c => (nD c, keyD u p c)), List.map_map]
  · rfl
  · intro a _ b _
    have e := congrFun (congrFun (PySem.W.dataLe_ii (β := Nat) (fun c => u c - p c) (fun c => (c : Int))) a) b
    exact e.symm
theorem sortOk_keys (u p : Nat → Int) (cs : List Nat) : sortOk (cs.map (keyD u p)) = true := by
  unfold sortOk
  simp only [Bool.and_eq_true, Bool.or_eq_true, List.all_eq_true, List.mem_map]
  refine ⟨⟨?_, ?_⟩, .inl ?_⟩
  · rintro d ⟨c, _, rfl⟩
    exact ⟨rfl, rfl⟩
  · rintro d ⟨c, _, rfl⟩ e ⟨c', _, rfl⟩
    rfl
  · rintro d ⟨c, _, rfl⟩
    rfl
theorem keys_run {ix : Nat} {fk : M R} {s : DS} {key : D → D} : ∀ (items acc : List D) (s0 : DS), wipeD s0 [ix] = wipeD s [ix] → (∀ d ∈ items, ∃ s2 s3, wipeD s3 [ix] = wipeD s [ix] ∧ putRaw ix (.dat d) (wipeD s [ix]) = some (.ok () s2) ∧ (∃ r, fk s2 = some (.ok r s3) ∧ frz r s3 = some (.ok (key d) s3))) →
    ∃ s1, wipeD s1 [ix] = wipeD s [ix] ∧ keysLoop ix fk items acc s0 = some (.ok (acc ++ items.map key) s1)
  | [], acc, s0, e, _ => ⟨s0, e, by rw [List.map_nil, List.append_nil]; rfl⟩
  | d :: r, acc, s0, e, hb => by
    obtain ⟨s2, s3, h1, h2, y, h3, h4⟩ := hb d List.mem_cons_self
    obtain ⟨s1, e1, q⟩ := keys_run r (acc ++ [key d]) s3 h1 fun x hx => hb x (List.mem_cons_of_mem _ hx)
    refine ⟨s1, e1, ?_⟩
    unfold keysLoop
    rw [bind_ok (run_wipe [ix] s0), e, bind_ok h2, bind_ok h3, bind_ok h4, q, List.map_cons, List.append_assoc]
    rfl
theorem sortK_run {ix : Nat} {fe fk : M R} {s : DS} {d : D} {es : List D} {key : D → D} (he : Ev fe s d) (hs : seqOf d = some es) (ok : okSlots [ix] s = true) (so : sortOk (es.map key) = true)
    (hb : ∀ d ∈ es, ∃ s2, wipeD s2 [ix] = wipeD s [ix] ∧ putRaw ix (.dat d) (wipeD s [ix]) = some (.ok () s2) ∧ Ev fk s2 (key d)) : Rn (sortKD ix fe fk) s (.new (.list (sortBy es (es.map key)))) := by
  unfold Rn sortKD
  rw [he.bind, bind_ok (m := dat (.dat d)) (a := d) (s' := s) rfl, hs]
  simp only
  obtain ⟨s1, e1, q⟩ := keys_run (key := key) (fk := fk) es [] s rfl fun d hd => by
    obtain ⟨s2, h1, h2, h3⟩ := hb d hd
    exact ⟨s2, s2, h1, h2, _, h3, rfl⟩
  rw [List.nil_append] at q
  rw [bind_ok (within_run ok q e1), bind_ok (m := need _) (a := ()) (s' := s) (by rw [run_need, so]; rfl)]
  rfl
/-- in_turn, the peaks plain data or lent -/
theorem run_in_turn {ts : List Tk} {p : Nat → Int} {cs : List Nat} {m : Bool} {pd : D} (hs : ∀ c ∈ cs, c < ts.length)
    (hp : ∀ c ∈ cs, ∀ s : DS, s[1]? = some (some (if m then SV.lent pd else SV.dat pd)) → s[3]? = some (some (.dat (nD c))) → Ev (rO gIx (getSl 1) (getSl 3)) s (.int (p c))) :
    f_in_turn [(false, tksD ts), (m, pd), (false, natsD cs)] = some (.ok (.own (.list ((turnOf (upOf ts) p cs).map nD))) (if m then [pd] else [])) := by
  let S (c : Option SV) : DS := [some (.dat (tksD ts)), some (if m then SV.lent pd else SV.dat pd), some (.dat (natsD cs)), c]
  have q : Rn (sortKD 3 (getSl 2) (rC mkT (rAc (rO gSub (rO gIx (rO gIx (getSl 0) (getSl 3)) (rI 2)) (rO gIx (getSl 1) (getSl 3))) (rAc (getSl 3) rA0)))) (S none) (.new (.list ((turnOf (upOf ts) p cs).map nD))) := by
    have ek : (cs.map nD).map (fun d => match d with | .int i => keyD (upOf ts) p i.toNat | _ => .none) = cs.map (keyD (upOf ts) p) := by
      rw [List.map_map]
      exact List.map_congr_left fun c _ => rfl
    have q := sortK_run (ix := 3) (fe := getSl 2) (fk := rC mkT (rAc (rO gSub (rO gIx (rO gIx (getSl 0) (getSl 3)) (rI 2)) (rO gIx (getSl 1) (getSl 3))) (rAc (getSl 3) rA0))) (s := S none) (d := natsD cs) (es := cs.map nD) (key := fun d => match d with | .int i => keyD (upOf ts) p i.toNat | _ => .none)
      (ev_get rfl) rfl rfl (by rw [ek]; exact sortOk_keys _ _ _) fun d hd => by
        obtain ⟨c, hc, rfl⟩ := List.mem_map.mp hd
        exact ⟨S (some (.dat (nD c))), rfl, rfl, ev_tup (es := [.int (upOf ts c - p c), nD c]) (ra_cons (ev_sub (ev_up (ev_get rfl) (ev_get rfl) (hs c hc)) (hp c hc _ rfl rfl)) (ra_cons (ev_get rfl) ra_nil)) (show 2 ≤ 16777216 by decide)⟩
    rw [ek, sortBy_turn] at q
    exact q
  have q2 : b_in_turn (S none) = some (.ok (.rt (.new (.list ((turnOf (upOf ts) p cs).map nD)))) (S none)) := st_ret q
  cases m with
  | false => exact runF_new (n := 4) (b := b_in_turn) (es := [tksD ts, pd, natsD cs]) q2
  | true =>
    unfold f_in_turn runF
    rw [show ds0 4 [(false, tksD ts), (true, pd), (false, natsD cs)] = S none from rfl, q2]
    rfl
end Den
/-! PH: are_some -/
namespace Den
open PySem PyProof.Rows L2
theorem in62_nat {n : Nat} (hn : n < 4611686018427387904) : in62 (n : Int) = true := by
  have h1 : -4611686018427387904 ≤ (n : Int) ∧ (n : Int) < 4611686018427387904 := ⟨by omega, by omega⟩
  unfold in62
  simp only [decide_eq_true_eq]
  exact h1
theorem it_range2 {s : DS} {fr : M (List R)} {n m : Nat} (h : Rn fr s [.dat (.int m), .dat (.int n)]) (hm : m < 4611686018427387904) (hn : n < 4611686018427387904) : Rn (rGo rng2 fr) s (upFrom m (n - m)) := by
  unfold Rn rGo
  rw [h.bind]
  have e : need (in62 m && in62 n) s = some (.ok () s) := by
    rw [run_need, in62_nat hm, in62_nat hn]
    rfl
  have e2 : ((n : Int) - (m : Int)).toNat = n - m := by omega
  unfold rng2
  show (asInt (R.dat (.int (m : Int))) >>= fun i => asInt (R.dat (.int (n : Int))) >>= fun j => (need (in62 i && in62 j) >>= fun _ => (pure (upFrom i (j - i).toNat) : M (List D)))) s = _
  rw [bind_ok (m := asInt (R.dat (.int (m : Int)))) (a := (m : Int)) (s' := s) rfl, bind_ok (m := asInt (R.dat (.int (n : Int)))) (a := (n : Int)) (s' := s) rfl, bind_ok e, e2]
  exact run_pure _ _
theorem ev_all {s : DS} {vs : List Nat} {fi : M (List D)} {g : R → M Unit} {fe : M R} {items : List D} (h : D → Bool) (hfi : Rn fi s items) (ok : okSlots vs s = true)
    (hb : ∀ d ∈ items, ∃ s2, wipeD s2 vs = wipeD s vs ∧ g (.dat d) (wipeD s vs) = some (.ok () s2) ∧ Ev fe s2 (.bool (h d))) : Ev (gxD true vs fi g fe) s (.bool (items.all h)) := by
  have q := gx_run (c := true) (vs := vs) (fi := fi) (g := g) (fe := fe) (s := s) (items := items) h hfi ok fun d hd => by
    obtain ⟨s2, e, e1, e2⟩ := hb d hd
    refine ⟨s2, e, ?_⟩
    unfold gxBody
    rw [bind_ok e1, e2.bind]
    rfl
  exact q
def okOne (cs : List Nat) (d : D) : Bool := isNum d 0 60 && inD d (cs.map nD)
def ltAt (es : List D) (d : D) : Bool := match d with
  | .int i => match es[i.toNat - 1]?, es[i.toNat]? with
    | some (.int a), some (.int b) => decide (a < b)
    | _, _ => false
  | _ => false
def areSome (cs : List Nat) (v : D) : Bool := match v with
  | .tuple es => es.all (okOne cs) && (upFrom 1 (es.length - 1)).all (ltAt es)
  | _ => false
theorem flat_nats (cs : List Nat) : (cs.map nD).all flat = true := by
  rw [List.all_eq_true]
  intro d hd
  obtain ⟨c, _, rfl⟩ := List.mem_map.mp hd
  rfl
theorem isNum_int {d : D} {l m : Int} (h : isNum d l m = true) : ∃ i, d = .int i := by
  unfold isNum at h
  split at h
  · exact ⟨_, rfl⟩
  · cases h
theorem run_are_some {cs : List Nat} {v : D} (hv : ∀ es, v = .tuple es → es.length < 16777216) : f_are_some [(false, natsD cs), (false, v)] = some (.ok (.dat (.bool (areSome cs v))) []) := by
  let S (a b : Option SV) : DS := [some (.dat (natsD cs)), some (.dat v), a, b]
  refine runF_dat (n := 4) (b := b_are_some) (es := [natsD cs, v]) (s1 := S none none) ?_
  unfold b_are_some
  have t1 : Rn (rNotT (rT (rIsi "tuple" (getSl 1)))) (S none none) (!isT "tuple" v) := rt_not (rt_val (ev_isi (rn_get (sv := .dat v) rfl) rfl))
  by_cases hT : isT "tuple" v = true
  · obtain ⟨es, rfl⟩ : ∃ es, v = .tuple es := by
      cases v with
      | tuple es => exact ⟨es, rfl⟩
      | dict kvs =>
        rcases tyD_dict kvs with e | e <;> simp [isT, e] at hT
      | _ => simp [isT, tyD] at hT
    have hl := hv es rfl
    have t2 : Ev (gxD true [2] (rItems (getSl 1)) (putSl 2) (andD (rC (callD f_is_number [false, false, false]) (rAc (getSl 2) (rAc (rI 0) (rAc (rI 60) rA0)))) (rO (gIn false) (getSl 2) (getSl 0)))) (S none none) (.bool (es.all (okOne cs))) :=
      ev_all (okOne cs) (it_seq (ev_get (d := .tuple es) rfl) rfl) rfl fun d hd => ⟨S (some (.dat d)) none, rfl, rfl,
        ev_and (ev_call (es := [d, .int 0, .int 60]) (ra_cons (ev_get rfl) (ra_cons ev_int (ra_cons ev_int ra_nil))) (run_is_number d 0 60)) fun h => by
          obtain ⟨i, rfl⟩ := isNum_int h
          exact ev_inS (a := .int i) (b := natsD cs) (ev_get rfl) (ev_get rfl) rfl rfl rfl rfl (flat_nats cs)⟩
    have tt : Rn (orT (rNotT (rT (rIsi "tuple" (getSl 1)))) (rNotT (rT (gxD true [2] (rItems (getSl 1)) (putSl 2) (andD (rC (callD f_is_number [false, false, false]) (rAc (getSl 2) (rAc (rI 0) (rAc (rI 60) rA0)))) (rO (gIn false) (getSl 2) (getSl 0))))))) (S none none) (!isT "tuple" (.tuple es) || !es.all (okOne cs)) := rt_or t1 fun _ => rt_not (rt_val t2)
    rw [show (!isT "tuple" (.tuple es) || !es.all (okOne cs)) = !es.all (okOne cs) from rfl] at tt
    cases ha : es.all (okOne cs) with
    | false =>
      rw [ha] at tt
      have e : areSome cs (.tuple es) = false := by
        show (es.all (okOne cs) && _) = false
        rw [ha]
        rfl
      rw [e]
      refine then_rt ((st_if tt).trans ?_)
      rfl
    | true =>
      rw [ha] at tt
      have e : areSome cs (.tuple es) = (upFrom 1 (es.length - 1)).all (ltAt es) := by
        show (es.all (okOne cs) && _) = _
        rw [ha]
        rfl
      rw [e]
      refine (then_nx (s1 := S none none) ((st_if tt).trans ?_)).trans ?_
      · rfl
      · refine st_ret (ev_all (ltAt es) (it_range2 (m := 1) (n := es.length) (ra_cons ev_int (ra_cons (ev_len (ra_cons (ev_get (d := .tuple es) rfl) ra_nil) rfl rfl) ra_nil)) (by omega) (by omega)) rfl fun d hd => ?_)
        obtain ⟨k, hk, rfl⟩ := List.mem_map.mp hd
        have hk := List.mem_range.mp hk
        have hall := List.all_eq_true.mp ha
        have hint : ∀ j, (hj : j < es.length) → ∃ i, es[j] = .int i := fun j hj => by
          have h := hall es[j] (List.getElem_mem hj)
          unfold okOne at h
          exact isNum_int (Bool.and_eq_true_iff.mp h).1
        obtain ⟨x, hx⟩ := hint k (by omega)
        obtain ⟨y, hy⟩ := hint (k + 1) (by omega)
        refine ⟨S none (some (.dat (.int ((1 : Int) + k)))), rfl, rfl, ?_⟩
        have e1 : ltAt es (.int ((1 : Int) + (k : Int))) = decide (x < y) := by
          unfold ltAt
          simp only
          rw [show ((1 : Int) + (k : Int)).toNat - 1 = k by omega, show ((1 : Int) + (k : Int)).toNat = k + 1 by omega, List.getElem?_eq_getElem (show k < es.length by omega), List.getElem?_eq_getElem (show k + 1 < es.length by omega), hx, hy]
        rw [e1]
        have a1 : atI es ((1 : Int) + (k : Int) - 1) = some (.int x) := by
          rw [show (1 : Int) + (k : Int) - 1 = ((k : Nat) : Int) by omega]
          exact atI_nat (by rw [List.getElem?_eq_getElem (show k < es.length by omega), hx])
        have a2 : atI es ((1 : Int) + (k : Int)) = some (.int y) := by
          rw [show (1 : Int) + (k : Int) = ((k + 1 : Nat) : Int) by omega]
          exact atI_nat (by rw [List.getElem?_eq_getElem (show k + 1 < es.length by omega), hy])
        exact ev_lt (ev_ix (ev_get (d := .tuple es) rfl) (ev_sub (ev_get rfl) ev_int) rfl a1) (ev_ix (ev_get (d := .tuple es) rfl) (ev_get rfl) rfl a2)
  · have hT : isT "tuple" v = false := by
      cases h : isT "tuple" v with
      | false => rfl
      | true => exact absurd h hT
    have e : areSome cs v = false := by
      cases v with
      | tuple es => simp [isT, tyD] at hT
      | _ => rfl
    rw [e]
    have tt := rt_or (s := S none none) (c' := rNotT (rT (gxD true [2] (rItems (getSl 1)) (putSl 2) (andD (rC (callD f_is_number [false, false, false]) (rAc (getSl 2) (rAc (rI 0) (rAc (rI 60) rA0)))) (rO (gIn false) (getSl 2) (getSl 0)))))) (y := false) t1 (fun h => by rw [hT] at h; cases h)
    rw [hT] at tt
    exact then_rt ((st_if tt).trans rfl)
end Den
/-! PI: _law_take -/
namespace Den
open PySem PyProof.Rows L2
def takeV (xs : List Int) (b : Int) : Int := match xs.getLast? with
  | none => 0
  | some x => x % b
theorem pop_run {s : DS} {i : Nat} {es : List D} {x : D} (hs : s[i]? = some (some (.lent (.list es)))) (hx : es[es.length - 1]? = some x) : rPop (getSl i) s = some (.ok (.dat x) (s.set i (some (.lent (.list es.dropLast))))) := by
  unfold rPop
  rw [bind_ok (rn_get hs)]
  unfold gPop
  have e : dOf s (.at i) = some (.list es) := by
    unfold dOf
    simp only
    rw [hs]
    rfl
  rw [show getR i (.lent (.list es)) = .at i from rfl, bind_ok (m := dat (.at i)) (a := .list es) (s' := s) (by rw [run_dat, e])]
  simp only
  rw [hx]
  simp only
  refine (bind_ok (a := ()) (s' := s.set i (some (.lent (.list es.dropLast)))) ?_).trans rfl
  unfold modAt
  simp only
  rw [hs]
theorem run_take {xs : List Int} {b : Int} (hb : 0 < b) : f_u_law_take [(true, .list (xs.map .int)), (false, .int b)] = some (.ok (.dat (.int (takeV xs b))) [.list (xs.dropLast.map .int)]) := by
  let S (l : List Int) : DS := [some (.lent (.list (l.map .int))), some (.dat (.int b))]
  have t := rt_val (rn_eq (s := S xs) (ev_len (ra_cons (rn_get (k := 0) (sv := .lent (.list (xs.map .int))) rfl) ra_nil) rfl rfl) (ev_int (i := 0)) rfl rfl rfl rfl)
  unfold f_u_law_take runF
  rw [show ds0 2 [(true, .list (xs.map .int)), (false, .int b)] = S xs from rfl]
  cases hx : xs.getLast? with
  | none =>
    have e : xs = [] := List.getLast?_eq_none_iff.mp hx
    subst e
    have q : b_u_law_take (S []) = some (.ok (.rt (.dat (.int 0))) (S [])) := by
      unfold b_u_law_take
      exact then_rt ((st_if t).trans rfl)
    rw [q]
    rfl
  | some x =>
    have hne : xs ≠ [] := fun e => by rw [e] at hx; cases hx
    have hl : 0 < xs.length := List.length_pos_iff.mpr hne
    have e0 : PyData.eqv (.int ((xs.map PyData.int).length : Int)) (.int 0) = false := by
      rw [List.length_map]
      show decide ((xs.length : Int) = 0) = false
      exact decide_eq_false (by omega)
    rw [e0] at t
    have hx2 : (xs.map PyData.int)[(xs.map PyData.int).length - 1]? = some (.int x) := by
      rw [List.length_map, List.getElem?_map, ← List.getLast?_eq_getElem?, hx]
      rfl
    have q : b_u_law_take (S xs) = some (.ok (.rt (.dat (.int (x % b)))) (S xs.dropLast)) := by
      unfold b_u_law_take
      refine (then_nx (s1 := S xs) ((st_if t).trans rfl)).trans ?_
      have p : rPop (getSl 0) (S xs) = some (.ok (.dat (.int x)) (S xs.dropLast)) := by
        rw [pop_run (es := xs.map .int) rfl hx2]
        show some (Res.ok (R.dat (.int x)) [some (.lent (.list (xs.map PyData.int).dropLast)), some (.dat (.int b))]) = _
        rw [← List.map_dropLast]
      have p2 : rC gInt (rAc (rPop (getSl 0)) rA0) (S xs) = some (.ok (.dat (.int x)) (S xs.dropLast)) := by
        unfold rC rAc
        rw [M.assoc, bind_ok p]
        rfl
      unfold rRet rO
      rw [M.assoc, bind_ok p2, M.assoc, bind_ok (m := getSl 1) (a := .dat (.int b)) (s' := S xs.dropLast) rfl]
      have p3 : gMod (.dat (.int x)) (.dat (.int b)) (S xs.dropLast) = some (.ok (.dat (.int (x % b))) (S xs.dropLast)) := by
        show (need (decide (0 < b)) >>= fun _ => (pure (.dat (.int (x % b))) : M R)) (S xs.dropLast) = _
        rw [run_bind, run_need, decide_eq_true hb]
        rfl
      rw [bind_ok p3]
      rfl
    rw [q]
    have e2 : takeV xs b = x % b := by
      unfold takeV
      rw [hx]
    rw [e2]
    rfl
end Den
/-! PJ: _law_turn -/
namespace Den
open PySem PyProof.Rows L2
theorem rn_sortP {s : DS} {fr : M (List R)} {ps : List (Int × Int)} (h1 : Rn fr s [.new (.list (ps.map pairD))]) : Rn (rC gSorted fr) s (.new (.list ((sortP ps).map pairD))) := rn_c h1 (by
  cases ps with
  | nil =>
    have e1 : sortP [] = [] := List.mergeSort_nil
    have e2 : sortI [] = [] := List.mergeSort_nil
    rw [e1]
    unfold gSorted
    rw [bind_ok (m := one _) (a := .new (.list [])) (s' := s) rfl, bind_ok (m := dat _) (a := .list []) (s' := s) rfl]
    show newL ((sortI []).map .int) s = _
    rw [e2]
    rfl
  | cons x r =>
    unfold gSorted
    rw [bind_ok (m := one _) (a := .new (.list ((x :: r).map pairD))) (s' := s) rfl, bind_ok (m := dat _) (a := .list ((x :: r).map pairD)) (s' := s) rfl]
    show (match intsOf ((x :: r).map pairD) with | some ns => newL ((sortI ns).map .int) | none => match pairsOf ((x :: r).map pairD) with | some ps => newL ((sortP ps).map pairD) | none => fail : M R) s = _
    rw [show intsOf ((x :: r).map pairD) = none from rfl, pairsOf_map]
    rfl)
theorem sortP_turn (u p : Nat → Int) (cs : List Nat) : sortP (cs.map fun c => (u c - p c, (c : Int))) = (turnOf u p cs).map fun c => (u c - p c, (c : Int)) := by
  unfold sortP turnOf
  exact (List.map_mergeSort (r := fun a b => leP (u a - p a, (a : Int)) (u b - p b, (b : Int))) (s := leP) (f := fun c : Nat => (u c - p c, (c : Int))) (l := cs) fun a _ b _ => rfl).symm
theorem run_law_turn {ts : List Tk} {bs : List Int} {cs : List Nat} (hb : bs.length = ts.length) (hs : ∀ c ∈ cs, c < ts.length) (hl : cs.length ≤ 16777216) :
    f_u_law_turn [(false, tksD ts), (false, .list (bs.map .int)), (false, natsD cs)] = some (.ok (.own (.list ((turnOf (upOf ts) (intAt bs) cs).map nD))) []) := by
  let S (a b : Option SV) : DS := [some (.dat (tksD ts)), some (.dat (.list (bs.map .int))), some (.dat (natsD cs)), a, b]
  have q := lc_map (vs := [4]) (fi := rItems (getSl 2)) (g := putSl 4) (fe := rC mkT (rAc (rO gSub (rO gIx (rO gIx (getSl 0) (getSl 4)) (rI 2)) (rO gIx (getSl 1) (getSl 4))) (rAc (getSl 4) rA0))) (s := S none none) (items := cs.map nD)
    (fun d => match d with | .int i => keyD (upOf ts) (intAt bs) i.toNat | _ => .none) (it_seq (ev_get (d := natsD cs) rfl) rfl) rfl (by simpa using hl) fun d hd => by
      obtain ⟨c, hc, rfl⟩ := List.mem_map.mp hd
      exact ⟨S none (some (.dat (nD c))), rfl, rfl, ev_tup (es := [.int (upOf ts c - intAt bs c), nD c]) (ra_cons (ev_sub (ev_up (ev_get rfl) (ev_get rfl) (hs c hc)) (ev_at (ev_get (d := .list (bs.map .int)) rfl) rfl (ev_get rfl) (by rw [hb]; exact hs c hc))) (ra_cons (ev_get rfl) ra_nil)) (show 2 ≤ 16777216 by decide)⟩
  have e : (cs.map nD).map (fun d => match d with | .int i => keyD (upOf ts) (intAt bs) i.toNat | _ => .none) = (cs.map fun c => (upOf ts c - intAt bs c, (c : Int))).map pairD := by
    rw [List.map_map, List.map_map]
    exact List.map_congr_left fun c _ => rfl
  rw [e] at q
  have q2 := rn_sortP (ra_cons q ra_nil)
  rw [sortP_turn] at q2
  have q3 := lc_map (vs := [3]) (g := putSl 3) (fe := rO gIx (getSl 3) (rI 1)) (s := S none none) (fun d => match d with | .tuple [_, x] => x | _ => .none) (it_new q2 rfl) rfl (by rw [List.length_map, List.length_map, (turn_perm _ _ _).length_eq]; exact hl) fun d hd => by
    obtain ⟨x, hx, rfl⟩ := List.mem_map.mp hd
    obtain ⟨c, hc, rfl⟩ := List.mem_map.mp hx
    exact ⟨S (some (.dat (pairD (upOf ts c - intAt bs c, (c : Int))))) none, rfl, rfl, ev_ix (ev_get (d := pairD (upOf ts c - intAt bs c, (c : Int))) rfl) (ev_int (i := 1)) rfl rfl⟩
  have e2 : (((turnOf (upOf ts) (intAt bs) cs).map fun c => (upOf ts c - intAt bs c, (c : Int))).map pairD).map (fun d => match d with | .tuple [_, x] => x | _ => .none) = (turnOf (upOf ts) (intAt bs) cs).map nD := by
    rw [List.map_map, List.map_map]
    exact List.map_congr_left fun c _ => rfl
  rw [e2] at q3
  exact runF_new (n := 5) (b := b_u_law_turn) (es := [tksD ts, .list (bs.map .int), natsD cs]) (s1 := S none none) (st_ret q3)
end Den
/-! PK: _law_children -/
namespace Den
open PySem PyProof.Rows L2
theorem upFrom_nat (n : Nat) : upFrom 0 n = (List.range n).map nD := by
  unfold upFrom
  exact List.map_congr_left fun k _ => by
    show PyData.int (0 + (k : Int)) = .int k
    rw [Int.zero_add]
theorem eqv_par (q : Option Nat) (i : Nat) : PyData.eqv (parD q) (nD i) = (q == some i) := by
  cases q with
  | none => rfl
  | some j =>
    show decide ((j : Int) = (i : Int)) = (some j == some i)
    by_cases h : j = i
    · rw [h, decide_eq_true rfl]
      simp
    · rw [decide_eq_false (by omega)]
      simp [h]
theorem shaped_par (q : Option Nat) : SeqAt.shaped (parD q) = true := by
  cases q <;> rfl
theorem ev_par {s : DS} {fa fb : M R} {ts : List Tk} {c : Nat} (h1 : Ev fa s (tksD ts)) (h2 : Ev fb s (nD c)) (h : c < ts.length) : Ev (rO gIx (rO gIx fa fb) (rI 0)) s (parD (parOf ts c)) := by
  have e : parOf ts c = ts[c].par := by
    unfold parOf
    rw [List.getElem?_eq_getElem h]
    rfl
  rw [e]
  exact ev_ix (ev_tk h1 h2 h) ev_int rfl rfl
theorem run_law_children {ts : List Tk} (hn : ts.length ≤ 16777216) : f_u_law_children [(false, tksD ts)] = some (.ok (.own (.list (belowL ts))) []) := by
  let S (a b : Option SV) : DS := [some (.dat (tksD ts)), a, b]
  have hr (a b : Option SV) : Rn (rGo rng1 (rAc (rC gLen (rAc (getSl 0) rA0)) rA0)) (S a b) ((List.range ts.length).map nD) := by
    have q := it_range1 (s := S a b) (n := (ts.map tkD).length) (ra_cons (ev_len (ra_cons (ev_get (k := 0) (d := tksD ts) rfl) ra_nil) rfl rfl) ra_nil) (by rw [List.length_map]; omega)
    rw [List.length_map, upFrom_nat] at q
    exact q
  have q := lc_map (vs := [1]) (fi := rGo rng1 (rAc (rC gLen (rAc (getSl 0) rA0)) rA0)) (g := putSl 1) (fe := rC gTuple (rAc (lcD [2] (rGo rng1 (rAc (rC gLen (rAc (getSl 0) rA0)) rA0)) (putSl 2) (rT (rO gEq (rO gIx (rO gIx (getSl 0) (getSl 2)) (rI 0)) (getSl 1))) (getSl 2)) rA0)) (s := S none none) (items := (List.range ts.length).map nD)
    (fun d => match d with | .int i => natsD (kids ts i.toNat) | _ => .none) (hr none none) rfl (by simpa using hn) fun d hd => by
      obtain ⟨i, hi, rfl⟩ := List.mem_map.mp hd
      have q := lc_filter (vs := [2]) (fi := rGo rng1 (rAc (rC gLen (rAc (getSl 0) rA0)) rA0)) (g := putSl 2) (ft := rT (rO gEq (rO gIx (rO gIx (getSl 0) (getSl 2)) (rI 0)) (getSl 1))) (fe := getSl 2) (s := S (some (.dat (nD i))) none) (items := (List.range ts.length).map nD)
        (fun d => match d with | .int c => parOf ts c.toNat == some i | _ => false) (fun d => d) (hr _ _) rfl (by simpa using hn) fun d hd => by
          obtain ⟨c, hc, rfl⟩ := List.mem_map.mp hd
          have hc := List.mem_range.mp hc
          refine ⟨S (some (.dat (nD i))) (some (.dat (nD c))), rfl, rfl, ?_, fun _ => ev_get rfl⟩
          have q := rt_val (rn_eq (s := S (some (.dat (nD i))) (some (.dat (nD c)))) (ev_par (ts := ts) (c := c) (ev_get (k := 0) rfl) (ev_get (k := 2) rfl) hc) (ev_get (k := 1) (d := nD i) rfl) rfl rfl (shaped_par _) rfl)
          rw [eqv_par] at q
          exact q
      rw [List.map_id', List.filter_map] at q
      exact ⟨S (some (.dat (nD i))) none, rfl, rfl, ev_tupOf (ra_cons q ra_nil) rfl⟩
  have e : ((List.range ts.length).map nD).map (fun d => match d with | .int i => natsD (kids ts i.toNat) | _ => .none) = belowL ts := by
    rw [List.map_map]
    exact List.map_congr_left fun c _ => rfl
  rw [e] at q
  exact runF_new (n := 3) (b := b_u_law_children) (es := [tksD ts]) (s1 := S none none) (st_ret q)
end Den
/-! PL: what is appended, added; sorted whole numbers -/
namespace Den
open PySem PyProof.Rows L2
theorem rn_sortI {s : DS} {fr : M (List R)} {r : R} {d : D} {ns : List Int} (h1 : Rn fr s [r]) (e : dOf s r = some d) (hs : seqOf d = some (ns.map .int)) : Rn (rC gSorted fr) s (.new (.list ((sortI ns).map .int))) := rn_c h1 (by
  unfold gSorted
  rw [bind_ok (m := one _) (a := r) (s' := s) rfl, bind_ok (m := dat r) (a := d) (s' := s) (by rw [run_dat, e]), hs]
  simp only
  rw [intsOf_map]
  rfl)
def sortN (l : List Nat) : List Nat := l.mergeSort fun a b => decide (a ≤ b)
theorem sortI_nats (l : List Nat) : sortI (l.map fun (n : Nat) => (n : Int)) = (sortN l).map fun (n : Nat) => (n : Int) := by
  unfold sortI sortN
  exact (List.map_mergeSort (r := fun a b : Nat => decide (a ≤ b)) (s := leI) (f := fun n : Nat => (n : Int)) (l := l) fun a _ b _ => by
    show decide (a ≤ b) = decide ((a : Int) ≤ (b : Int))
    exact decide_eq_decide.mpr (by omega)).symm
theorem sortN_perm (l : List Nat) : (sortN l).Perm l := List.mergeSort_perm _ _
theorem nats_int (l : List Nat) : l.map nD = (l.map fun (n : Nat) => (n : Int)).map .int := by
  rw [List.map_map]
  exact List.map_congr_left fun n _ => rfl
/-- an own list, appended -/
theorem st_app {s : DS} {k : Nat} {fa : M R} {es : List D} {d : D} (hk : s[k]? = some (some (.own (.list es)))) (h : Ev fa s d) (hl : es.length < 16777216) : rExpr (rAppend (getSl k) (rAc fa rA0)) s = some (.ok .nx (s.set k (some (.own (.list (es ++ [d])))))) := by
  have e1 : rAppend (getSl k) (rAc fa rA0) s = some (.ok (.dat .none) (s.set k (some (.own (.list (es ++ [d])))))) := by
    unfold rAppend
    rw [bind_ok (rn_get hk)]
    have e : dOf s (.at k) = some (.list es) := by
      unfold dOf
      simp only
      rw [hk]
      rfl
    rw [show getR k (.own (.list es)) = .at k from rfl, bind_ok (m := dat (.at k)) (a := .list es) (s' := s) (by rw [run_dat, e]), bind_ok (m := need (isList (.list es))) (a := ()) (s' := s) rfl, bind_ok (m := rAc fa rA0) (a := [.dat d]) (s' := s) (ra_cons h ra_nil)]
    unfold gAppend
    rw [bind_ok (m := one _) (a := .dat d) (s' := s) rfl, bind_ok (m := frz _) (a := d) (s' := s) rfl]
    refine (bind_ok (a := ()) (s' := s.set k (some (.own (.list (es ++ [d]))))) ?_).trans rfl
    unfold modAt
    simp only
    rw [hk]
    simp only
    rw [if_pos hl]
  exact st_expr e1
theorem st_add {s : DS} {k : Nat} {fa : M R} {i j : Int} (hk : s[k]? = some (some (.dat (.int i)))) (h : Ev fa s (.int j)) : rAug (fun i j => i + j) k fa s = some (.ok .nx (s.set k (some (.dat (.int (i + j)))))) := by
  unfold rAug
  rw [bind_ok (rn_get hk), show getR k (.dat (.int i)) = .dat (.int i) from rfl, h.bind, bind_ok (m := asInt _) (a := i) (s' := s) rfl, bind_ok (m := asInt _) (a := j) (s' := s) rfl]
  refine (bind_ok (a := ()) (s' := s.set k (some (.dat (.int (i + j))))) ?_).trans rfl
  unfold putRaw
  rw [hk]
  rfl
end Den
/-! PM: told_some -/
namespace Den
open PySem PyProof.Rows L2 K70
def toldStep (u p : Nat → Int) (x : Int × List Nat × Int × List Nat) (c : Nat) : Int × List Nat × Int × List Nat :=
  (x.1 + u c, x.2.1 ++ [c], if x.1 + p c > x.2.2.1 then (x.1 + p c, x.2.1 ++ [c]) else x.2.2)
theorem toldStep_go (u p : Nat → Int) : ∀ (t : List Nat) (h : Int) (pre : List Nat) (b : Int) (w : List Nat), t.foldl (toldStep u p) (h, pre, b, w) = (h + sumOf u t, pre ++ t, toldGo u p h pre b w t)
  | [], h, pre, b, w => by
    show (h, pre, b, w) = (h + 0, pre ++ [], b, w)
    rw [Int.add_zero, List.append_nil]
  | c :: t, h, pre, b, w => by
    rw [List.foldl_cons]
    by_cases hc : h + p c > b
    · rw [show toldStep u p (h, pre, b, w) c = (h + u c, pre ++ [c], h + p c, pre ++ [c]) by unfold toldStep; simp only; rw [if_pos hc], toldStep_go u p t]
      rw [show toldGo u p h pre b w (c :: t) = toldGo u p (h + u c) (pre ++ [c]) (h + p c) (pre ++ [c]) t from if_pos hc, List.append_assoc, Int.add_assoc]
      rfl
    · rw [show toldStep u p (h, pre, b, w) c = (h + u c, pre ++ [c], b, w) by unfold toldStep; simp only; rw [if_neg hc], toldStep_go u p t]
      rw [show toldGo u p h pre b w (c :: t) = toldGo u p (h + u c) (pre ++ [c]) b w t from if_neg hc, List.append_assoc, Int.add_assoc]
      rfl
end Den
/-! PN: told_some's loop -/
namespace Den
open PySem PyProof.Rows L2 K70
theorem for_left {α β : Type} (ι : β → D) (f : α → β → α) (Rl : Nat → α → DS → Prop) {g : R → M Unit} {fb : M Fl} : ∀ (its : List β) (x : α) (s : DS), Rl its.length x s → (∀ b ∈ its, ∀ n x s, Rl (n + 1) x s → ∃ s1 s2, g (.dat (ι b)) s = some (.ok () s1) ∧ fb s1 = some (.ok .nx s2) ∧ Rl n (f x b) s2) →
    ∃ s', forD g fb (its.map ι) s = some (.ok .nx s') ∧ Rl 0 (its.foldl f x) s'
  | [], x, s, hx, _ => ⟨s, rfl, hx⟩
  | b :: r, x, s, hx, hb => by
    obtain ⟨s1, s2, h1, h2, h3⟩ := hb b List.mem_cons_self r.length x s hx
    obtain ⟨s', e, q⟩ := for_left ι f Rl r (f x b) s2 h3 fun c hc => hb c (List.mem_cons_of_mem _ hc)
    refine ⟨s', ?_, q⟩
    rw [List.map_cons]
    unfold forD
    rw [run_bind, h1]
    simp only
    rw [run_bind, h2]
    exact e
end Den
/-! PO: told_some -/
namespace Den
open PySem PyProof.Rows L2 K70
theorem told_step {ts : List Tk} {ps : List Int} {i : Nat} {cs : List Nat} (hb : ps.length = ts.length) {c : Nat} (hc : c < ts.length) (n : Nat) (x : Int × List Nat × Int × List Nat) (s : DS)
    (hx : x.2.1.length + (n + 1) ≤ 16777216 ∧ ∃ o : Option D, s = [some (.dat (tksD ts)), some (.dat (.tuple (ps.map .int))), some (.dat (nD i)), some (.dat (natsD cs)), some (.dat (.int x.1)), some (.own (.list (x.2.1.map nD))), some (.dat (.int x.2.2.1)), some (.dat (natsD (sortN x.2.2.2))), o.map .dat]) :
    ∃ s1 s2, putSl 8 (.dat (nD c)) s = some (.ok () s1) ∧
      (thenS (rExpr (rAppend (getSl 5) (rAc (getSl 8) rA0)))
        (thenS (rIf (rT (rO gGt (rO gAdd (getSl 4) (rO gIx (getSl 1) (getSl 8))) (getSl 6)))
          (rPar 6 7 (rAc (rO gAdd (getSl 4) (rO gIx (getSl 1) (getSl 8))) (rAc (rC gTuple (rAc (rC gSorted (rAc (getSl 5) rA0)) rA0)) rA0)))
          (pure .nx))
        (rAug (fun i j => i + j) 4 (rO gIx (rO gIx (getSl 0) (getSl 8)) (rI 2))))) s1 = some (.ok .nx s2) ∧
      ((toldStep (upOf ts) (intAt ps) x c).2.1.length + n ≤ 16777216 ∧ ∃ o : Option D, s2 = [some (.dat (tksD ts)), some (.dat (.tuple (ps.map .int))), some (.dat (nD i)), some (.dat (natsD cs)), some (.dat (.int (toldStep (upOf ts) (intAt ps) x c).1)), some (.own (.list ((toldStep (upOf ts) (intAt ps) x c).2.1.map nD))), some (.dat (.int (toldStep (upOf ts) (intAt ps) x c).2.2.1)), some (.dat (natsD (sortN (toldStep (upOf ts) (intAt ps) x c).2.2.2))), o.map .dat]) := by
  obtain ⟨held, pre, best, told⟩ := x
  obtain ⟨hl, o, rfl⟩ := hx
  let S (h : Int) (pr : List Nat) (b : Int) (w : List Nat) : DS := [some (.dat (tksD ts)), some (.dat (.tuple (ps.map .int))), some (.dat (nD i)), some (.dat (natsD cs)), some (.dat (.int h)), some (.own (.list (pr.map nD))), some (.dat (.int b)), some (.dat (natsD (sortN w))), some (.dat (nD c))]
  have hl : pre.length + (n + 1) ≤ 16777216 := hl
  have a1 : rExpr (rAppend (getSl 5) (rAc (getSl 8) rA0)) (S held pre best told) = some (.ok .nx (S held (pre ++ [c]) best told)) := by
    rw [st_app (k := 5) (es := pre.map nD) (d := nD c) rfl (ev_get rfl) (by rw [List.length_map]; omega)]
    show some (Res.ok Fl.nx [_, _, _, _, _, some (SV.own (.list (pre.map nD ++ [nD c]))), _, _, _]) = _
    rw [show pre.map nD ++ [nD c] = (pre ++ [c]).map nD by rw [List.map_append]; rfl]
  have need : Ev (rO gAdd (getSl 4) (rO gIx (getSl 1) (getSl 8))) (S held (pre ++ [c]) best told) (.int (held + intAt ps c)) := ev_add (ev_get rfl) (ev_at (ev_get (d := .tuple (ps.map .int)) rfl) rfl (ev_get rfl) (by rw [hb]; exact hc))
  have t := rt_val (ev_gt need (ev_get (k := 6) (d := .int best) rfl))
  refine ⟨S held pre best told, ?_⟩
  have last (b : Int) (w : List Nat) : rAug (fun i j => i + j) 4 (rO gIx (rO gIx (getSl 0) (getSl 8)) (rI 2)) (S held (pre ++ [c]) b w) = some (.ok .nx (S (held + upOf ts c) (pre ++ [c]) b w)) := st_add (k := 4) rfl (ev_up (ev_get rfl) (ev_get rfl) hc)
  by_cases h : best < held + intAt ps c
  · rw [decide_eq_true h] at t
    have e : toldStep (upOf ts) (intAt ps) (held, pre, best, told) c = (held + upOf ts c, pre ++ [c], held + intAt ps c, pre ++ [c]) := by
      unfold toldStep
      simp only
      rw [if_pos h]
    rw [e]
    refine ⟨S (held + upOf ts c) (pre ++ [c]) (held + intAt ps c) (pre ++ [c]), by cases o <;> rfl, (then_nx a1).trans ((then_nx (s1 := S held (pre ++ [c]) (held + intAt ps c) (pre ++ [c])) ((st_if t).trans ?_)).trans (last _ _)), by show (pre ++ [c]).length + n ≤ _; rw [List.length_append]; show pre.length + 1 + n ≤ _; omega, some (nD c), rfl⟩
    rw [if_pos rfl]
    have so := rn_sortI (s := S held (pre ++ [c]) best told) (ra_cons (rn_get (k := 5) (sv := .own (.list ((pre ++ [c]).map nD))) rfl) ra_nil) rfl (ns := (pre ++ [c]).map fun (n : Nat) => (n : Int)) (by rw [← nats_int]; rfl)
    rw [sortI_nats, ← nats_int] at so
    have so2 := ev_tupOf (ra_cons so ra_nil) rfl
    unfold rPar
    rw [Rn.bind (ra_cons need (ra_cons so2 ra_nil))]
    rfl
  · rw [decide_eq_false h] at t
    have e : toldStep (upOf ts) (intAt ps) (held, pre, best, told) c = (held + upOf ts c, pre ++ [c], best, told) := by
      unfold toldStep
      simp only
      rw [if_neg h]
    rw [e]
    exact ⟨S (held + upOf ts c) (pre ++ [c]) best told, by cases o <;> rfl, (then_nx a1).trans ((then_nx (s1 := S held (pre ++ [c]) best told) ((st_if t).trans rfl)).trans (last _ _)), by show (pre ++ [c]).length + n ≤ _; rw [List.length_append]; show pre.length + 1 + n ≤ _; omega, some (nD c), rfl⟩
end Den
/-! PP: told_some whole -/
namespace Den
open PySem PyProof.Rows L2 K70
def toldV (ts : List Tk) (ps : List Int) (i : Nat) (cs : List Nat) : List Nat :=
  if (toldGo (upOf ts) (intAt ps) 0 [] (-1) [] (turnOf (upOf ts) (intAt ps) cs)).1 > sumOf (upOf ts) (turnOf (upOf ts) (intAt ps) cs) + frOf ts i then sortN (toldGo (upOf ts) (intAt ps) 0 [] (-1) [] (turnOf (upOf ts) (intAt ps) cs)).2 else []
theorem run_told_some {ts : List Tk} {ps : List Int} {i : Nat} {cs : List Nat} (hb : ps.length = ts.length) (hi : i < ts.length) (hs : ∀ c ∈ cs, c < ts.length) (hl : cs.length ≤ 16777215) :
    f_told_some [(false, tksD ts), (false, .tuple (ps.map .int)), (false, nD i), (false, natsD cs)] = some (.ok (.dat (natsD (toldV ts ps i cs))) []) := by
  let S (h b w o l : Option SV) : DS := [some (.dat (tksD ts)), some (.dat (.tuple (ps.map .int))), some (.dat (nD i)), some (.dat (natsD cs)), h, l, b, w, o]
  let t := turnOf (upOf ts) (intAt ps) cs
  have ht : t.length = cs.length := (turn_perm _ _ _).length_eq
  let s0 : DS := S (some (.dat (.int 0))) (some (.dat (.int (-1)))) (some (.dat (natsD (sortN [])))) none (some (.own (.list ([].map nD))))
  have e0 : tupN 4 (rAc (rI 0) (rAc (rC mkL rA0) (rAc (rNeg (rI 1)) (rAc (rC mkT rA0) rA0)))) (gsCons (putSl 4) (gsCons (putSl 5) (gsCons (putSl 6) (gsCons (putSl 7) gsNil)))) (S none none none none none) = some (.ok .nx s0) := by
    have z : sortN [] = [] := List.mergeSort_nil
    show _ = some (Res.ok Fl.nx (S (some (.dat (.int 0))) (some (.dat (.int (-1)))) (some (.dat (natsD (sortN [])))) none (some (.own (.list ([].map nD))))))
    rw [z]
    rfl
  have it : Rn (rItems (rC (callD f_in_turn [false, false, false]) (rAc (getSl 0) (rAc (getSl 1) (rAc (getSl 3) rA0))))) s0 (t.map nD) :=
    it_new (d := .list (t.map nD)) (rn_call (es := [tksD ts, .tuple (ps.map .int), natsD cs]) (ra_cons (ev_get rfl) (ra_cons (ev_get rfl) (ra_cons (ev_get rfl) ra_nil))) (run_in_turn (m := false) (pd := .tuple (ps.map .int)) (p := intAt ps) hs fun c hc s h1 h2 => ev_at (ev_get h1) rfl (ev_get h2) (by rw [hb]; exact hs c hc))) rfl
  obtain ⟨s', h1, _, o, h2⟩ := for_left (g := putSl 8) (fb := thenS (rExpr (rAppend (getSl 5) (rAc (getSl 8) rA0)))
        (thenS (rIf (rT (rO gGt (rO gAdd (getSl 4) (rO gIx (getSl 1) (getSl 8))) (getSl 6)))
          (rPar 6 7 (rAc (rO gAdd (getSl 4) (rO gIx (getSl 1) (getSl 8))) (rAc (rC gTuple (rAc (rC gSorted (rAc (getSl 5) rA0)) rA0)) rA0)))
          (pure .nx))
        (rAug (fun i j => i + j) 4 (rO gIx (rO gIx (getSl 0) (getSl 8)) (rI 2))))) nD (toldStep (upOf ts) (intAt ps))
    (fun n x s => x.2.1.length + n ≤ 16777216 ∧ ∃ o : Option D, s = [some (.dat (tksD ts)), some (.dat (.tuple (ps.map .int))), some (.dat (nD i)), some (.dat (natsD cs)), some (.dat (.int x.1)), some (.own (.list (x.2.1.map nD))), some (.dat (.int x.2.2.1)), some (.dat (natsD (sortN x.2.2.2))), o.map .dat]) t (0, [], -1, []) s0
    ⟨by show 0 + t.length ≤ _; omega, none, rfl⟩ fun c hc n x s hx => told_step hb (hs c ((turn_perm _ _ _).mem_iff.mp hc)) n x s hx
  rw [toldStep_go] at h2
  refine runF_dat (n := 9) (b := b_told_some) (es := [tksD ts, .tuple (ps.map .int), nD i, natsD cs]) (s1 := s') ?_
  unfold b_told_some
  refine (then_nx (s := S none none none none none) (s1 := s0) e0).trans ?_
  refine (then_nx (s1 := s') (it.bind.trans h1)).trans ?_
  subst h2
  refine st_ret ?_
  refine rn_ifE (rt_val (ev_gt (ev_get rfl) (ev_add (ev_get rfl) (ev_fr (ts := ts) (c := i) (ev_get rfl) (ev_get rfl) hi)))) (fun h => ?_) (fun h => ?_)
  · have h := of_decide_eq_true h
    have e : toldV ts ps i cs = sortN (toldGo (upOf ts) (intAt ps) 0 [] (-1) [] t).2 := if_pos (by rw [Int.zero_add] at h; exact h)
    rw [e]
    exact ev_get rfl
  · have h := of_decide_eq_false h
    have e : toldV ts ps i cs = [] := if_neg (by rw [Int.zero_add] at h; exact h)
    rw [e]
    exact ev_tup (es := []) ra_nil (Nat.zero_le _)
end Den
/-! PQ: typed items; loops by their prefix; calls that lend -/
namespace Den
open PySem PyProof.Rows L2
section
variable {α β : Type} {s s1 s2 : DS} {vs : List Nat} {fi : M (List D)} {g : R → M Unit} {ft : M Bool} {fe : M R} {fb : M Fl}
theorem lc_T {l : List α} (ι : α → D) (p : α → Bool) (f : α → D) (hfi : Rn fi s (l.map ι)) (ok : okSlots vs s = true) (hl : l.length ≤ 16777216)
    (hb : ∀ a ∈ l, ∃ s2, wipeD s2 vs = wipeD s vs ∧ g (.dat (ι a)) (wipeD s vs) = some (.ok () s2) ∧ Rn ft s2 (p a) ∧ (p a = true → Ev fe s2 (f a))) : Rn (lcD vs fi g ft fe) s (.new (.list ((l.filter p).map f))) := by
  let h : D → Option D := fun d => match lcBody g ft fe d (wipeD s vs) with
    | some (.ok o _) => o
    | _ => none
  have hrun : ∀ a ∈ l, ∃ s', wipeD s' vs = wipeD s vs ∧ lcBody g ft fe (ι a) (wipeD s vs) = some (.ok (if p a then some (f a) else none) s') := fun a ha => by
    obtain ⟨s2, e, e1, e2, e3⟩ := hb a ha
    refine ⟨s2, e, ?_⟩
    unfold lcBody
    rw [run_bind, e1]
    simp only
    rw [e2.bind]
    cases hp : p a with
    | false => rfl
    | true =>
      simp only [if_true]
      rw [(e3 hp).bind]
      rfl
  have q := lc_run (vs := vs) (fi := fi) (g := g) (ft := ft) (fe := fe) (s := s) (items := l.map ι) h hfi ok (by simpa using hl) fun d hd => by
    obtain ⟨a, ha, rfl⟩ := List.mem_map.mp hd
    obtain ⟨s2, e, e1⟩ := hrun a ha
    refine ⟨s2, e, ?_⟩
    rw [e1]
    show _ = some (Res.ok (match lcBody g ft fe (ι a) (wipeD s vs) with | some (.ok o _) => o | _ => none) s2)
    rw [e1]
  have e : (l.map ι).filterMap h = (l.filter p).map f := by
    rw [List.filterMap_map]
    have e2 : ∀ l' : List α, (∀ a ∈ l', a ∈ l) → l'.filterMap (h ∘ ι) = (l'.filter p).map f := by
      intro l'
      induction l' with
      | nil => intro _; rfl
      | cons a r ih =>
        intro hm
        have ih := ih fun x hx => hm x (List.mem_cons_of_mem _ hx)
        obtain ⟨s2, _, e1⟩ := hrun a (hm a List.mem_cons_self)
        have e3 : (h ∘ ι) a = if p a then some (f a) else none := by
          show (match lcBody g ft fe (ι a) (wipeD s vs) with | some (.ok o _) => o | _ => none) = _
          rw [e1]
        rw [List.filterMap_cons, List.filter_cons, e3]
        cases hp : p a with
        | false => simp [ih]
        | true => simp [ih]
    exact e2 l fun a ha => ha
  rw [e] at q
  exact q
theorem lc_mapT {l : List α} (ι : α → D) (f : α → D) (hfi : Rn fi s (l.map ι)) (ok : okSlots vs s = true) (hl : l.length ≤ 16777216)
    (hb : ∀ a ∈ l, ∃ s2, wipeD s2 vs = wipeD s vs ∧ g (.dat (ι a)) (wipeD s vs) = some (.ok () s2) ∧ Ev fe s2 (f a)) : Rn (lcD vs fi g (pure true) fe) s (.new (.list (l.map f))) := by
  have q := lc_T (vs := vs) (fi := fi) (g := g) (ft := pure true) (fe := fe) (s := s) ι (fun _ => true) f hfi ok hl fun a ha => by
    obtain ⟨s2, e, e1, e2⟩ := hb a ha
    exact ⟨s2, e, e1, rfl, fun _ => e2⟩
  rwa [List.filter_eq_self.mpr (fun _ _ => rfl)] at q
theorem ev_allT {l : List α} (ι : α → D) (p : α → Bool) (hfi : Rn fi s (l.map ι)) (ok : okSlots vs s = true)
    (hb : ∀ a ∈ l, ∃ s2, wipeD s2 vs = wipeD s vs ∧ g (.dat (ι a)) (wipeD s vs) = some (.ok () s2) ∧ Ev fe s2 (.bool (p a))) : Ev (gxD true vs fi g fe) s (.bool (l.all p)) := by
  let h : D → Bool := fun d => match gxBody g fe d (wipeD s vs) with
    | some (.ok o _) => o
    | _ => false
  have hrun : ∀ a ∈ l, ∃ s', wipeD s' vs = wipeD s vs ∧ gxBody g fe (ι a) (wipeD s vs) = some (.ok (p a) s') := fun a ha => by
    obtain ⟨s2, e, e1, e2⟩ := hb a ha
    refine ⟨s2, e, ?_⟩
    unfold gxBody
    rw [bind_ok e1, e2.bind]
    rfl
  have q := gx_run (c := true) (vs := vs) (fi := fi) (g := g) (fe := fe) (s := s) (items := l.map ι) h hfi ok fun d hd => by
    obtain ⟨a, ha, rfl⟩ := List.mem_map.mp hd
    obtain ⟨s2, e, e1⟩ := hrun a ha
    refine ⟨s2, e, ?_⟩
    rw [e1]
    show _ = some (Res.ok (match gxBody g fe (ι a) (wipeD s vs) with | some (.ok o _) => o | _ => false) s2)
    rw [e1]
  have e : (l.map ι).all h = l.all p := by
    have e2 : ∀ l' : List α, (∀ a ∈ l', a ∈ l) → (l'.map ι).all h = l'.all p := by
      intro l'
      induction l' with
      | nil => intro _; rfl
      | cons a r ih =>
        intro hm
        obtain ⟨s2, _, e1⟩ := hrun a (hm a List.mem_cons_self)
        have e3 : h (ι a) = p a := by
          show (match gxBody g fe (ι a) (wipeD s vs) with | some (.ok o _) => o | _ => false) = _
          rw [e1]
        rw [List.map_cons, List.all_cons, List.all_cons, e3, ih fun x hx => hm x (List.mem_cons_of_mem _ hx)]
    exact e2 l fun a ha => ha
  have q : Ev (gxD true vs fi g fe) s (.bool ((l.map ι).all h)) := q
  rw [e] at q
  exact q
/-- a loop whose state is told by what it went through -/
theorem for_brk (ι : β → D) (p : β → Bool) (r : R) (l : List β) (Rl : List β → DS → Prop) (h0 : Rl [] s) (hb : ∀ pre b post s, l = pre ++ b :: post → Rl pre s → ∃ s1 s2, g (.dat (ι b)) s = some (.ok () s1) ∧ (if p b then fb s1 = some (.ok .nx s2) ∧ Rl (pre ++ [b]) s2 else fb s1 = some (.ok (.rt r) s2))) :
    ∃ s', if l.all p then forD g fb (l.map ι) s = some (.ok .nx s') ∧ Rl l s' else forD g fb (l.map ι) s = some (.ok (.rt r) s') := by
  have H : ∀ (post pre : List β) (s : DS), l = pre ++ post → Rl pre s → ∃ s', if post.all p then forD g fb (post.map ι) s = some (.ok .nx s') ∧ Rl l s' else forD g fb (post.map ι) s = some (.ok (.rt r) s') := by
    intro post
    induction post with
    | nil =>
      intro pre s e hr
      refine ⟨s, ?_⟩
      rw [List.append_nil] at e
      subst e
      exact ⟨rfl, hr⟩
    | cons b post ih =>
      intro pre s e hr
      obtain ⟨s1, s2, h1, h2⟩ := hb pre b post s e hr
      rw [List.all_cons, List.map_cons]
      unfold forD
      rw [bind_ok h1]
      cases hp : p b with
      | false =>
        rw [hp] at h2
        have h2 : fb s1 = some (.ok (.rt r) s2) := h2
        refine ⟨s2, ?_⟩
        show (fb >>= _) s1 = _
        rw [bind_ok h2]
        rfl
      | true =>
        rw [hp] at h2
        obtain ⟨h2, h3⟩ := (show fb s1 = some (.ok .nx s2) ∧ Rl (pre ++ [b]) s2 from h2)
        obtain ⟨s', h4⟩ := ih (pre ++ [b]) s2 (by rw [e, List.append_assoc]; rfl) h3
        refine ⟨s', ?_⟩
        rw [Bool.true_and, bind_ok h2]
        exact h4
  exact H l [] s rfl h0
theorem for_pre (ι : β → D) (l : List β) (Rl : List β → DS → Prop) (h0 : Rl [] s) (hb : ∀ pre b post s, l = pre ++ b :: post → Rl pre s → ∃ s1 s2, g (.dat (ι b)) s = some (.ok () s1) ∧ fb s1 = some (.ok .nx s2) ∧ Rl (pre ++ [b]) s2) :
    ∃ s', forD g fb (l.map ι) s = some (.ok .nx s') ∧ Rl l s' := by
  obtain ⟨s', h⟩ := for_brk (g := g) (fb := fb) (s := s) ι (fun _ => true) (.dat .none) l Rl h0 hb
  rw [if_pos (by simp)] at h
  exact ⟨s', h⟩
theorem pre_range {n i : Nat} {pre post : List Nat} (e : List.range n = pre ++ i :: post) : pre = List.range i ∧ i < n := by
  have hi : i = pre.length := by
    have h1 := congrArg (fun l => l[pre.length]?) e
    simp only [List.getElem?_append_right (Nat.le_refl _), Nat.sub_self] at h1
    have hl : pre.length < n := by
      have := congrArg List.length e
      rw [List.length_range, List.length_append, List.length_cons] at this
      omega
    rw [List.getElem?_range hl] at h1
    simpa using h1.symm
  have hl : i < n := by
    have := congrArg List.length e
    rw [List.length_range, List.length_append, List.length_cons] at this
    omega
  refine ⟨?_, hl⟩
  have h1 := congrArg (List.take pre.length) e
  rw [List.take_left' rfl, ← hi, List.take_range, Nat.min_eq_left (by omega)] at h1
  exact h1.symm
/-- a loop over 0, 1, .. -/
theorem for_idx (ι : Nat → D) (n : Nat) (Rl : Nat → DS → Prop) (h0 : Rl 0 s) (hb : ∀ i s, i < n → Rl i s → ∃ s1 s2, g (.dat (ι i)) s = some (.ok () s1) ∧ fb s1 = some (.ok .nx s2) ∧ Rl (i + 1) s2) :
    ∃ s', forD g fb ((List.range n).map ι) s = some (.ok .nx s') ∧ Rl n s' := by
  obtain ⟨s', h1, h2⟩ := for_pre (g := g) (fb := fb) (s := s) ι (List.range n) (fun pre s => Rl pre.length s) h0 fun pre b post s e hr => by
    obtain ⟨e1, e2⟩ := pre_range e
    have hr : Rl pre.length s := hr
    rw [e1, List.length_range] at hr
    obtain ⟨s1, s2, h1, h2, h3⟩ := hb b s e2 hr
    refine ⟨s1, s2, h1, h2, ?_⟩
    show Rl (pre ++ [b]).length s2
    rw [List.length_append, e1, List.length_range]
    exact h3
  have h2 : Rl (List.range n).length s' := h2
  rw [List.length_range] at h2
  exact ⟨s', h1, h2⟩
theorem for_idxB (ι : Nat → D) (p : Nat → Bool) (r : R) (n : Nat) (Rl : Nat → DS → Prop) (h0 : Rl 0 s) (hb : ∀ i s, i < n → Rl i s → ∃ s1 s2, g (.dat (ι i)) s = some (.ok () s1) ∧ (if p i then fb s1 = some (.ok .nx s2) ∧ Rl (i + 1) s2 else fb s1 = some (.ok (.rt r) s2))) :
    ∃ s', if (List.range n).all p then forD g fb ((List.range n).map ι) s = some (.ok .nx s') ∧ Rl n s' else forD g fb ((List.range n).map ι) s = some (.ok (.rt r) s') := by
  obtain ⟨s', h⟩ := for_brk (g := g) (fb := fb) (s := s) ι p r (List.range n) (fun pre s => Rl pre.length s) h0 fun pre b post s e hr => by
    obtain ⟨e1, e2⟩ := pre_range e
    have hr : Rl pre.length s := hr
    rw [e1, List.length_range] at hr
    obtain ⟨s1, s2, h1, h2⟩ := hb b s e2 hr
    refine ⟨s1, s2, h1, ?_⟩
    have e3 : (pre ++ [b]).length = b + 1 := by
      rw [List.length_append, e1, List.length_range]
      rfl
    rw [e3]
    exact h2
  refine ⟨s', ?_⟩
  have e4 : (List.range n).length = n := List.length_range
  rw [e4] at h
  exact h
end
/-! ### calls that lend one object -/
section
variable {s : DS} {f : FD} {ms : List Bool} {k : Nat} {sv : SV} {d d' : D} {r : RR} {fr : M (List R)}
theorem argsOf_lend (hk : s[k]? = some (some sv)) (ho : isOwn sv = true) (hd : sv.d = d) (post : List D) : ∀ pre : List D, argsOf s (datsR pre ++ .at k :: datsR post) = some ((pre.map fun d => (false, d)) ++ (true, d) :: post.map fun d => (false, d))
  | [] => by
    show (match argOf s (.at k), argsOf s (datsR post) with | some a, some as => some (a :: as) | _, _ => none) = _
    have e : argOf s (.at k) = some (true, d) := by
      unfold argOf
      simp only
      rw [hk]
      cases sv with
      | dat d => cases ho
      | own d => exact congrArg (fun z => some (true, z)) hd
      | lent d => exact congrArg (fun z => some (true, z)) hd
    rw [e, argsOf_dats]
    rfl
  | x :: pre => by
    show (match argOf s (.dat x), argsOf s (datsR pre ++ .at k :: datsR post) with | some a, some as => some (a :: as) | _, _ => none) = _
    rw [argsOf_lend hk ho hd post pre]
    rfl
theorem lentSlots_lend (post : List D) : ∀ pre : List D, lentSlots (datsR pre ++ .at k :: datsR post) ((pre.map fun d => (false, d)) ++ (true, d) :: post.map fun d => (false, d)) = [k]
  | [] => by
    show k :: lentSlots (datsR post) (post.map fun d => (false, d)) = [k]
    rw [lentSlots_dats]
  | _ :: pre => lentSlots_lend post pre
theorem nwOf_lend (post : List D) (i : Nat) : ∀ pre : List D, nwOf (datsR pre ++ .at k :: datsR post) ((pre.map fun d => (false, d)) ++ (true, d) :: post.map fun d => (false, d)) [d'] i = if i = k then some d' else none
  | [] => by
    show (if i = k then some d' else nwOf (datsR post) (post.map fun d => (false, d)) [] i) = _
    rw [nwOf_dats]
  | _ :: pre => nwOf_lend post i pre
theorem updF_lend (hk : s[k]? = some (some sv)) : updF (fun i => if i = k then some d' else none) 0 s = s.set k (some (setS d' sv)) := by
  apply List.ext_getElem?
  intro j
  rw [updF_get, List.getElem?_set, Nat.zero_add]
  have hl : k < s.length := (List.getElem?_eq_some_iff.mp hk).1
  by_cases h : k = j
  · subst h
    rw [if_pos rfl, if_pos hl, hk]
    simp
  · rw [if_neg h, if_neg (fun e => h e.symm)]
    cases s[j]? <;> rfl
theorem run_lend {pre post : List D} (h1 : Rn fr s (datsR pre ++ .at k :: datsR post)) (hp : prep ms (datsR pre ++ .at k :: datsR post) s = some (.ok (datsR pre ++ .at k :: datsR post) s)) (hk : s[k]? = some (some sv)) (ho : isOwn sv = true) (hd : sv.d = d)
    (h : f ((pre.map fun d => (false, d)) ++ (true, d) :: post.map fun d => (false, d)) = some (.ok r [d'])) : rC (callD f ms) fr s = some (.ok (resR r) (s.set k (some (setS d' sv)))) := by
  unfold rC
  rw [h1.bind]
  unfold callD
  refine (bind_ok hp).trans ?_
  rw [argsOf_lend hk ho hd post pre]
  simp only
  rw [lentSlots_lend, if_pos (by simp), h]
  simp only
  have e : nwOf (datsR pre ++ .at k :: datsR post) ((pre.map fun d => (false, d)) ++ (true, d) :: post.map fun d => (false, d)) [d'] = fun i => if i = k then some d' else none := funext fun i => nwOf_lend post i pre
  rw [e, updF_lend hk]
/-- the object is lent, and comes back as it was -/
theorem rn_lend {pre post : List D} (h1 : Rn fr s (datsR pre ++ .at k :: datsR post)) (hp : prep ms (datsR pre ++ .at k :: datsR post) s = some (.ok (datsR pre ++ .at k :: datsR post) s)) (hk : s[k]? = some (some sv)) (ho : isOwn sv = true)
    (h : f ((pre.map fun d => (false, d)) ++ (true, sv.d) :: post.map fun d => (false, d)) = some (.ok r [sv.d])) : Rn (rC (callD f ms) fr) s (resR r) := by
  unfold Rn
  rw [run_lend (d := sv.d) (d' := sv.d) h1 hp hk ho rfl h]
  have e : s.set k (some (setS sv.d sv)) = s := by
    apply List.ext_getElem?
    intro j
    rw [List.getElem?_set]
    have hl : k < s.length := (List.getElem?_eq_some_iff.mp hk).1
    by_cases h : k = j
    · subst h
      rw [if_pos rfl, if_pos hl, hk]
      cases sv <;> rfl
    · rw [if_neg h]
  rw [e]
end
end Den
/-! PR: least_peaks -/
namespace Den
open PySem PyProof.Rows L2 K70
def dictL : Nat → List Int → List (D × D)
  | _, [] => []
  | k, x :: r => (nD k, .int x) :: dictL (k + 1) r
theorem seqOf_dictL (k : Nat) : ∀ l : List Int, seqOf (.dict (dictL k l)) = none
  | [] => rfl
  | [_] => rfl
  | _ :: _ :: _ => rfl
theorem dictL_append (x : Int) : ∀ (l : List Int) (k : Nat), dictL k (l ++ [x]) = dictL k l ++ [(nD (k + l.length), .int x)]
  | [], k => rfl
  | y :: l, k => by
    show (nD k, .int y) :: dictL (k + 1) (l ++ [x]) = (nD k, .int y) :: (dictL (k + 1) l ++ _)
    rw [dictL_append x l (k + 1), List.length_cons, show k + 1 + l.length = k + (l.length + 1) by omega]
theorem eqv_nD (a b : Nat) : PyData.eqv (nD a) (nD b) = decide (a = b) := by
  show decide ((a : Int) = (b : Int)) = _
  exact decide_eq_decide.mpr (by omega)
theorem look_dictL : ∀ (l : List Int) (k i : Nat), k ≤ i → i < k + l.length → lookD (nD i) (dictL k l) = some (.int (intAt l (i - k)))
  | [], k, i, h1, h2 => by simp at h2; omega
  | x :: l, k, i, h1, h2 => by
    show (if PyData.eqv (nD k) (nD i) = true then some (.int x) else lookD (nD i) (dictL (k + 1) l)) = _
    rw [eqv_nD]
    by_cases h : k = i
    · subst h
      rw [if_pos (by simp), Nat.sub_self]
      rfl
    · rw [if_neg (by simpa using h), look_dictL l (k + 1) i (by omega) (by rw [List.length_cons] at h2; omega)]
      unfold intAt
      rw [show i - k = (i - (k + 1)) + 1 by omega, List.getElem?_cons_succ]
theorem put_dictL (x : Int) (l : List Int) : putD (nD l.length) (.int x) (dictL 0 l) = dictL 0 (l ++ [x]) := by
  have h : ∀ (l : List Int) (k n : Nat), k + l.length ≤ n → (dictL k l).any (fun p => PyData.eqv p.1 (nD n)) = false := by
    intro l
    induction l with
    | nil => intro _ _ _; rfl
    | cons y l ih =>
      intro k n hn
      rw [List.length_cons] at hn
      show (PyData.eqv (nD k) (nD n) || (dictL (k + 1) l).any _) = false
      rw [ih (k + 1) n (by omega), eqv_nD, decide_eq_false (by omega)]
      rfl
  unfold putD
  rw [h l 0 l.length (by omega), if_neg (by simp), dictL_append, Nat.zero_add]
theorem dictL_length : ∀ (l : List Int) (k : Nat), (dictL k l).length = l.length
  | [], _ => rfl
  | _ :: l, k => by
    show (dictL (k + 1) l).length + 1 = _
    rw [dictL_length l]
    rfl
/-! ### the peaks -/
def pkOf (ts : List Tk) (ps : List Int) (i : Nat) : Int := costOf (upOf ts) (intAt ps) (frOf ts i) (turnOf (upOf ts) (intAt ps) (kids ts i))
def pkTo (ts : List Tk) : Nat → List Int
  | 0 => []
  | m + 1 => pkTo ts m ++ [pkOf ts (pkTo ts m) m]
def pks (ts : List Tk) : List Int := pkTo ts ts.length
theorem pkTo_len (ts : List Tk) : ∀ m, (pkTo ts m).length = m
  | 0 => rfl
  | m + 1 => by
    show (pkTo ts m ++ _).length = _
    rw [List.length_append, pkTo_len ts m]
    rfl
theorem pks_len (ts : List Tk) : (pks ts).length = ts.length := pkTo_len ts _
def mostStep (u p : Nat → Int) (x : Int × Int) (c : Nat) : Int × Int := (x.1 + u c, max x.2 (x.1 + p c))
theorem mostStep_go (u p : Nat → Int) : ∀ (t : List Nat) (h m : Int), t.foldl (mostStep u p) (h, m) = (h + sumOf u t, mostFrom u p h m t)
  | [], h, m => by
    show (h, m) = (h + 0, m)
    rw [Int.add_zero]
  | c :: t, h, m => by
    rw [List.foldl_cons]
    show t.foldl (mostStep u p) (h + u c, max m (h + p c)) = _
    rw [mostStep_go u p t]
    show (h + u c + sumOf u t, mostFrom u p (h + u c) (max m (h + p c)) t) = (h + (u c + sumOf u t), mostFrom u p (h + u c) (max m (h + p c)) t)
    rw [Int.add_assoc]
/-- children are less than their parent -/
def KidsLess (ts : List Tk) : Prop := ∀ c q, parOf ts c = some q → c < q
theorem mem_kids {ts : List Tk} {i c : Nat} (h : c ∈ kids ts i) : parOf ts c = some i := by
  have := (List.mem_filter.mp h).2
  simpa using this
theorem par_at {ts : List Tk} {i : Nat} (h : i < ts.length) : parOf ts i = ts[i].par := by
  unfold parOf
  rw [List.getElem?_eq_getElem h]
  rfl
/-- a task's row in an enumeration -/
theorem row_at {ts : List Tk} {i : Nat} (h : i < ts.length) : ((ts.map tkD)[i]?).getD .none = tkD ts[i] := by
  rw [List.getElem?_map, List.getElem?_eq_getElem h]
  rfl
theorem fr_at {ts : List Tk} {i : Nat} (h : i < ts.length) : frOf ts i = ts[i].fr := by
  unfold frOf
  rw [List.getElem?_eq_getElem h]
theorem it_len {s : DS} {k : Nat} {ts : List Tk} (h : s[k]? = some (some (.dat (tksD ts)))) (hn : ts.length ≤ 16777216) : Rn (rGo rng1 (rAc (rC gLen (rAc (getSl k) rA0)) rA0)) s ((List.range ts.length).map nD) := by
  have q := it_range1 (s := s) (n := (ts.map tkD).length) (ra_cons (ev_len (ra_cons (ev_get (k := k) (d := tksD ts) h) ra_nil) rfl rfl) ra_nil) (by rw [List.length_map]; omega)
  rw [List.length_map, upFrom_nat] at q
  exact q
theorem ev_found {s : DS} {k j c : Nat} {sv : SV} {ps : List Int} (h1 : s[k]? = some (some sv)) (ho : isOwn sv = true) (hd : sv.d = .dict (dictL 0 ps)) (h2 : s[j]? = some (some (.dat (nD c)))) (h : c < ps.length) : Ev (rO gIx (getSl k) (getSl j)) s (.int (intAt ps c)) := by
  have e : dOf s (getR k sv) = some (.dict (dictL 0 ps)) := by
    cases sv with
    | dat d => cases ho
    | own d =>
      show (match s[k]? with | some (some sv) => some sv.d | _ => none) = _
      rw [h1]
      exact congrArg some hd
    | lent d =>
      show (match s[k]? with | some (some sv) => some sv.d | _ => none) = _
      rw [h1]
      exact congrArg some hd
  have l := look_dictL ps 0 c (Nat.zero_le _) (by omega)
  rw [Nat.sub_zero] at l
  exact rn_ixD (kvs := dictL 0 ps) (k := .inl (c : Int)) (rn_get h1) (ev_get h2) e rfl (seqOf_dictL 0 ps) rfl l
theorem run_least_peaks {ts : List Tk} (hn : ts.length ≤ 16777215) (hp : ParOk ts) (hk : KidsLess ts) : f_least_peaks [(false, tksD ts)] = some (.ok (.dat (.tuple ((pks ts).map .int))) []) := by
  let S (f a b c h m x : Option SV) : DS := [some (.dat (tksD ts)), some (.dat (.tuple (belowL ts))), f, a, b, c, h, m, x]
  let F (m : Nat) : Option SV := some (.own (.dict (dictL 0 (pkTo ts m))))
  have body : ∀ i s, i < ts.length → (∃ a b c h m x : Option D, s = S (F i) (a.map .dat) (b.map .dat) (c.map .dat) (h.map .dat) (m.map .dat) (x.map .dat)) → ∃ s1 s2,
      unT 2 (gsCons (putSl 3) (gsCons (unT 3 (gsCons (putSl 4) (gsCons (putSl 5) (gsCons (putSl 4) gsNil)))) gsNil)) (.dat (.tuple [nD i, ((ts.map tkD)[i]?).getD .none])) s = some (.ok () s1) ∧
      (thenS (tupN 2 (rAc (rI 0) (rAc (rI 0) rA0)) (gsCons (putSl 6) (gsCons (putSl 7) gsNil)))
       (thenS (rFor (rItems (rC (callD f_in_turn [false, true, false]) (rAc (getSl 0) (rAc (getSl 2) (rAc (rO gIx (getSl 1) (getSl 3)) rA0))))) (putSl 8)
       (thenS (rAsg (rC gMax (rAc (getSl 7) (rAc (rO gAdd (getSl 6) (rO gIx (getSl 2) (getSl 8))) rA0))) (putSl 7))
       (rAug (fun i j => i + j) 6 (rO gIx (rO gIx (getSl 0) (getSl 8)) (rI 2)))))
       (rAsg (rC gMax (rAc (getSl 7) (rAc (rO gAdd (getSl 6) (getSl 5)) rA0))) (rSub (getSl 2) (getSl 3))))) s1 = some (.ok .nx s2) ∧
      (∃ a b c h m x : Option D, s2 = S (F (i + 1)) (a.map .dat) (b.map .dat) (c.map .dat) (h.map .dat) (m.map .dat) (x.map .dat)) := by
    rintro i s hi ⟨a, b, c, h, m, x, rfl⟩
    rw [row_at hi]
    let U (h m x : Option D) : DS := S (F i) (some (.dat (nD i))) (some (.dat (.int ts[i].up))) (some (.dat (.int ts[i].fr))) (h.map .dat) (m.map .dat) (x.map .dat)
    let t := turnOf (upOf ts) (intAt (pkTo ts i)) (kids ts i)
    have hkl : ∀ c ∈ kids ts i, c < (pkTo ts i).length := fun c hc => by
      rw [pkTo_len]
      exact hk c i (mem_kids hc)
    refine ⟨U h m x, ?_⟩
    have it : Rn (rItems (rC (callD f_in_turn [false, true, false]) (rAc (getSl 0) (rAc (getSl 2) (rAc (rO gIx (getSl 1) (getSl 3)) rA0))))) (U (some (.int 0)) (some (.int 0)) x) (t.map nD) :=
      it_new (d := .list (t.map nD)) (rn_lend (k := 2) (sv := .own (.dict (dictL 0 (pkTo ts i)))) (pre := [tksD ts]) (post := [natsD (kids ts i)]) (ra_cons (ev_get rfl) (ra_cons (rn_get (k := 2) (sv := .own (.dict (dictL 0 (pkTo ts i)))) rfl) (ra_cons (ev_kids (ts := ts) (i := i) (ev_get (d := .tuple (belowL ts)) rfl) rfl (ev_get rfl) hi) ra_nil))) rfl rfl rfl
        (run_in_turn (m := true) (pd := .dict (dictL 0 (pkTo ts i))) (p := intAt (pkTo ts i)) (fun c hc => kids_lt hc) fun c hc s h1 h2 => ev_found (sv := .lent (.dict (dictL 0 (pkTo ts i)))) h1 rfl rfl h2 (hkl c hc))) rfl
    obtain ⟨s', e1, o, e2⟩ := for_rel (g := putSl 8) (fb := thenS (rAsg (rC gMax (rAc (getSl 7) (rAc (rO gAdd (getSl 6) (rO gIx (getSl 2) (getSl 8))) rA0))) (putSl 7))
       (rAug (fun i j => i + j) 6 (rO gIx (rO gIx (getSl 0) (getSl 8)) (rI 2)))) nD (mostStep (upOf ts) (intAt (pkTo ts i))) (fun y s => ∃ o, s = U (some (.int y.1)) (some (.int y.2)) o) t (0, 0) (U (some (.int 0)) (some (.int 0)) x) ⟨x, rfl⟩ fun c hc y s ⟨o, hs⟩ => by
        have hc := (turn_perm _ _ _).mem_iff.mp hc
        subst hs
        obtain ⟨h, m⟩ := y
        refine ⟨U (some (.int h)) (some (.int m)) (some (nD c)), U (some (.int (h + upOf ts c))) (some (.int (max m (h + intAt (pkTo ts i) c)))) (some (nD c)), by cases o <;> rfl, ?_, some (nD c), rfl⟩
        refine (then_nx (s1 := U (some (.int h)) (some (.int (max m (h + intAt (pkTo ts i) c)))) (some (nD c))) (st_asg (r := .dat (.int (max m (h + intAt (pkTo ts i) c)))) (ev_max2 (ra_cons (ev_get rfl) (ra_cons (ev_add (ev_get rfl) (ev_found (sv := .own (.dict (dictL 0 (pkTo ts i)))) rfl rfl rfl rfl (hkl c hc))) ra_nil))) rfl)).trans ?_
        exact st_add (k := 6) rfl (ev_up (ev_get rfl) (ev_get rfl) (kids_lt hc))
    rw [mostStep_go] at e2
    subst e2
    refine ⟨S (F (i + 1)) (some (.dat (nD i))) (some (.dat (.int ts[i].up))) (some (.dat (.int ts[i].fr))) (some (.dat (.int (0 + sumOf (upOf ts) t)))) (some (.dat (.int (mostFrom (upOf ts) (intAt (pkTo ts i)) 0 0 t)))) (o.map .dat), ?_, ?_, ⟨some (nD i), some (.int ts[i].up), some (.int ts[i].fr), some (.int (0 + sumOf (upOf ts) t)), some (.int (mostFrom (upOf ts) (intAt (pkTo ts i)) 0 0 t)), o, rfl⟩⟩
    · cases a <;> cases b <;> cases c <;> rfl
    · refine (then_nx (s1 := U (some (.int 0)) (some (.int 0)) x) (by cases h <;> cases m <;> rfl)).trans ?_
      refine (then_nx (it.bind.trans e1)).trans ?_
      have ev : pkOf ts (pkTo ts i) i = max (mostFrom (upOf ts) (intAt (pkTo ts i)) 0 0 t) (0 + sumOf (upOf ts) t + ts[i].fr) := by
        unfold pkOf costOf
        rw [fr_at hi, Int.zero_add]
      refine st_asg (r := .dat (.int (pkOf ts (pkTo ts i) i))) ?_ ?_
      · rw [ev]
        exact ev_max2 (ra_cons (ev_get rfl) (ra_cons (ev_add (ev_get rfl) (ev_get rfl)) ra_nil))
      · let V : DS := U (some (.int (0 + sumOf (upOf ts) t))) (some (.int (mostFrom (upOf ts) (intAt (pkTo ts i)) 0 0 t))) o
        show rSub (getSl 2) (getSl 3) _ V = _
        unfold rSub
        rw [bind_ok (m := getSl 2) (a := .at 2) (s' := V) rfl, bind_ok (m := getSl 3) (a := .dat (nD i)) (s' := V) rfl]
        unfold gSetIx
        rw [bind_ok (m := frz _) (a := .int (pkOf ts (pkTo ts i) i)) (s' := V) rfl]
        have e3 : setD (.dat (nD i)) (.int (pkOf ts (pkTo ts i) i)) (.dict (dictL 0 (pkTo ts i))) = some (.dict (dictL 0 (pkTo ts (i + 1)))) := by
          show (if (dictL 0 (pkTo ts i)).length < 16777216 then some (PyData.dict (putD (nD i) (.int (pkOf ts (pkTo ts i) i)) (dictL 0 (pkTo ts i)))) else none) = _
          have e4 := put_dictL (pkOf ts (pkTo ts i) i) (pkTo ts i)
          rw [pkTo_len] at e4
          rw [dictL_length, pkTo_len, if_pos (by omega), e4]
          rfl
        show (match setD (.dat (nD i)) (.int (pkOf ts (pkTo ts i) i)) (.dict (dictL 0 (pkTo ts i))) with | some c' => some (Res.ok () (V.set 2 (some (.own c')))) | none => none) = _
        rw [e3]
        rfl
  obtain ⟨s', e1, a, b, c, h, m, x, e2⟩ := for_idx (s := S (F 0) none none none none none none) (fun i => .tuple [nD i, ((ts.map tkD)[i]?).getD .none]) ts.length (fun i s => ∃ a b c h m x : Option D, s = S (F i) (a.map .dat) (b.map .dat) (c.map .dat) (h.map .dat) (m.map .dat) (x.map .dat)) ⟨none, none, none, none, none, none, rfl⟩ body
  have eit : (List.range ts.length).map (fun i => (.tuple [nD i, ((ts.map tkD)[i]?).getD .none] : D)) = enumL 0 (ts.map tkD) := by
    rw [enumL_range, List.length_map]
  rw [eit] at e1
  let S0 : DS := [some (.dat (tksD ts)), none, none, none, none, none, none, none, none]
  refine runF_dat (n := 9) (b := b_least_peaks) (es := [tksD ts]) (s1 := s') ?_
  unfold b_least_peaks
  have e0 : tupN 2 (rAc (rC (callD f_children_in [false]) (rAc (getSl 0) rA0)) (rAc (pure (.new (.dict []))) rA0)) (gsCons (putSl 1) (gsCons (putSl 2) gsNil)) S0 = some (.ok .nx (S (F 0) none none none none none none)) := by
    unfold tupN
    have q : Rn (rAc (rC (callD f_children_in [false]) (rAc (getSl 0) rA0)) (rAc (pure (.new (.dict []))) rA0)) S0 [.dat (.tuple (belowL ts)), .new (.dict [])] := ra_cons (ev_call (es := [tksD ts]) (ra_cons (ev_get rfl) ra_nil) (run_children_in hn hp)) (ra_cons (r := .new (.dict [])) rfl ra_nil)
    rw [q.bind]
    rfl
  refine (then_nx (s := S0) e0).trans ?_
  refine (then_nx (s1 := s') ((it_enum (ra_cons (ev_get (d := tksD ts) rfl) ra_nil) rfl).bind.trans e1)).trans ?_
  subst e2
  refine st_ret (ev_tupOf (ra_cons (lc_mapT (l := List.range ts.length) nD (fun i => .int (intAt (pks ts) i)) (it_len rfl (by omega)) (by cases a <;> rfl) (by rw [List.length_range]; omega) fun i hi => ?_) ra_nil) ?_)
  · refine ⟨S (F ts.length) (some (.dat (nD i))) (b.map .dat) (c.map .dat) (h.map .dat) (m.map .dat) (x.map .dat), rfl, rfl, ?_⟩
    exact ev_found (sv := .own (.dict (dictL 0 (pks ts)))) rfl rfl rfl rfl (by rw [pks_len]; exact List.mem_range.mp hi)
  · have e3 : (List.range ts.length).map (fun i => (.int (intAt (pks ts) i) : D)) = (pks ts).map .int := by
      apply List.ext_getElem?
      intro j
      by_cases hj : j < ts.length
      · have hj2 : j < (pks ts).length := by rw [pks_len]; exact hj
        rw [List.getElem?_map, List.getElem?_map, List.getElem?_range hj, List.getElem?_eq_getElem hj2]
        show some (PyData.int (intAt (pks ts) j)) = some (.int _)
        unfold intAt
        rw [List.getElem?_eq_getElem hj2]
        rfl
      · rw [List.getElem?_eq_none (by simp; omega), List.getElem?_eq_none (by rw [List.length_map, pks_len]; omega)]
    rw [e3]
    rfl
end Den
/-! PS: told_paper, is_paper, proves_least -/
namespace Den
open PySem PyProof.Rows L2 K70
abbrev Pap := List (Int × List Nat)
def rowD (r : Int × List Nat) : D := .tuple [.int r.1, natsD r.2]
def papD (v : Pap) : D := .tuple (v.map rowD)
def bds (v : Pap) : List Int := v.map fun r => r.1
def told (ts : List Tk) : Pap := (List.range ts.length).map fun i => (intAt (pks ts) i, toldV ts (pks ts) i (kids ts i))
theorem run_told_paper {ts : List Tk} (hn : ts.length ≤ 16777215) (hp : ParOk ts) (hk : KidsLess ts) : f_told_paper [(false, tksD ts)] = some (.ok (.dat (papD (told ts))) []) := by
  let S (a b c : Option SV) : DS := [some (.dat (tksD ts)), a, b, c]
  let s1 : DS := S (some (.dat (.tuple ((pks ts).map .int)))) (some (.dat (.tuple (belowL ts)))) none
  refine runF_dat (n := 4) (b := b_told_paper) (es := [tksD ts]) (s1 := s1) ?_
  unfold b_told_paper
  have e0 : tupN 2 (rAc (rC (callD f_least_peaks [false]) (rAc (getSl 0) rA0)) (rAc (rC (callD f_children_in [false]) (rAc (getSl 0) rA0)) rA0)) (gsCons (putSl 1) (gsCons (putSl 2) gsNil)) (S none none none) = some (.ok .nx s1) := by
    unfold tupN
    have q : Rn (rAc (rC (callD f_least_peaks [false]) (rAc (getSl 0) rA0)) (rAc (rC (callD f_children_in [false]) (rAc (getSl 0) rA0)) rA0)) (S none none none) [.dat (.tuple ((pks ts).map .int)), .dat (.tuple (belowL ts))] := ra_cons (ev_call (es := [tksD ts]) (ra_cons (ev_get rfl) ra_nil) (run_least_peaks hn hp hk)) (ra_cons (ev_call (es := [tksD ts]) (ra_cons (ev_get rfl) ra_nil) (run_children_in hn hp)) ra_nil)
    rw [q.bind]
    rfl
  refine (then_nx (s := S none none none) (s1 := s1) e0).trans ?_
  refine st_ret ?_
  have q := lc_mapT (vs := [3]) (g := putSl 3) (fe := rC mkT (rAc (rO gIx (getSl 1) (getSl 3)) (rAc (rC (callD f_told_some [false, false, false, false]) (rAc (getSl 0) (rAc (getSl 1) (rAc (getSl 3) (rAc (rO gIx (getSl 2) (getSl 3)) rA0))))) rA0))) (s := s1) (l := List.range ts.length) nD
    (fun i => rowD (intAt (pks ts) i, toldV ts (pks ts) i (kids ts i))) (it_len (k := 0) rfl (by omega)) rfl (by rw [List.length_range]; omega) fun i hi => by
      have hi := List.mem_range.mp hi
      refine ⟨S (some (.dat (.tuple ((pks ts).map .int)))) (some (.dat (.tuple (belowL ts)))) (some (.dat (nD i))), rfl, rfl, ?_⟩
      have hk := kids_len ts i
      exact ev_tup (es := [.int (intAt (pks ts) i), natsD (toldV ts (pks ts) i (kids ts i))]) (ra_cons (ev_at (bs := pks ts) (ev_get (d := .tuple ((pks ts).map .int)) rfl) rfl (ev_get rfl) (by rw [pks_len]; exact hi)) (ra_cons (ev_call (es := [tksD ts, .tuple ((pks ts).map .int), nD i, natsD (kids ts i)]) (ra_cons (ev_get rfl) (ra_cons (ev_get rfl) (ra_cons (ev_get rfl) (ra_cons (ev_kids (ts := ts) (i := i) (ev_get (d := .tuple (belowL ts)) rfl) rfl (ev_get rfl) hi) ra_nil)))) (run_told_some (pks_len ts) hi (fun c hc => kids_lt hc) (by omega))) ra_nil)) (show 2 ≤ 16777216 by decide)
  have e1 : (List.range ts.length).map (fun i => rowD (intAt (pks ts) i, toldV ts (pks ts) i (kids ts i))) = (told ts).map rowD := by
    unfold told
    rw [List.map_map]
    rfl
  rw [e1] at q
  exact ev_tupOf (ra_cons q ra_nil) rfl
/-! ### is_paper -/
def rowOk1 (d : D) : Bool := match d with
  | .tuple [b, _] => isNum b 0 61000000
  | _ => false
def rowOk (ts : List Tk) (i : Nat) (d : D) : Bool := match d with
  | .tuple [b, s] => isNum b 0 61000000 && areSome (kids ts i) s
  | _ => false
def somAt (v : Pap) (i : Nat) : List Nat := ((v[i]?).map (·.2)).getD []
def shownAll (ts : List Tk) (v : Pap) : Bool := (List.range ts.length).all fun i => shownB ts (bds v) i (somAt v i)
theorem isT_tup {d : D} (h : isT "tuple" d = true) : ∃ es, d = .tuple es := by
  cases d with
  | tuple es => exact ⟨es, rfl⟩
  | dict kvs =>
    rcases tyD_dict kvs with e | e <;> simp [isT, e] at h
  | _ => simp [isT, tyD] at h
theorem isT_not {d : D} (h : ∀ es, d ≠ .tuple es) : isT "tuple" d = false := by
  cases e : isT "tuple" d with
  | false => rfl
  | true =>
    obtain ⟨es, rfl⟩ := isT_tup e
    exact absurd rfl (h es)
theorem eqv_int (a b : Int) : PyData.eqv (.int a) (.int b) = decide (a = b) := rfl
section
variable {ts : List Tk} {v : D} {rows : List D}
/-- the row's first look -/
theorem run_row1 {s : DS} {d : D} (h : s[4]? = some (some (.dat d))) : Rn (orT (rNotT (rT (rIsi "tuple" (getSl 4)))) (orT (rT (rO gNe (rC gLen (rAc (getSl 4) rA0)) (rI 2))) (rNotT (rT (rC (callD f_is_number [false, false, false]) (rAc (rO gIx (getSl 4) (rI 0)) (rAc (rI 0) (rAc (rI (61000000)) rA0)))))))) s (!rowOk1 d) := by
  have t1 : Rn (rNotT (rT (rIsi "tuple" (getSl 4)))) s (!isT "tuple" d) := rt_not (rt_val (ev_isi (rn_get (sv := .dat d) h) rfl))
  by_cases hT : ∃ es, d = .tuple es
  · obtain ⟨es, rfl⟩ := hT
    have t2 : Rn (rT (rO gNe (rC gLen (rAc (getSl 4) rA0)) (rI 2))) s (!decide ((es.length : Int) = 2)) := rt_val (rn_ne (ev_len (ra_cons (ev_get h) ra_nil) rfl rfl) (ev_int (i := 2)) rfl rfl rfl rfl)
    by_cases hl : es.length = 2
    · obtain ⟨b, c, rfl⟩ : ∃ b c, es = [b, c] := by
        match es, hl with
        | [b, c], _ => exact ⟨b, c, rfl⟩
      exact rt_or t1 fun _ => rt_or t2 fun _ => rt_not (rt_val (ev_call (es := [b, .int 0, .int 61000000]) (ra_cons (ev_ix (ev_get h) (ev_int (i := 0)) rfl rfl) (ra_cons ev_int (ra_cons ev_int ra_nil))) (run_is_number b 0 61000000)))
    · have e : rowOk1 (.tuple es) = false := by
        unfold rowOk1
        split
        · rename_i b c e
          cases e
          exact absurd rfl hl
        · rfl
      rw [e]
      have hd : decide ((es.length : Int) = 2) = false := decide_eq_false (by omega)
      rw [hd] at t2
      exact rt_or (y := true) t1 fun _ => rt_or (y := true) t2 fun h => by cases h
  · have hd := isT_not fun es e => hT ⟨es, e⟩
    rw [hd] at t1
    have e : rowOk1 d = false := by
      unfold rowOk1
      split
      · exact absurd ⟨_, rfl⟩ hT
      · rfl
    rw [e]
    exact rt_or (y := true) t1 fun h => by cases h
/-- the rows' walk -/
theorem run_rows (hn : ts.length ≤ 16777215) (hlen : rows.length = ts.length) (hw : ∀ d ∈ rows, ∀ b es, d = .tuple [b, .tuple es] → es.length < 16777216) :
    let S (a b : Option SV) : DS := [some (.dat (tksD ts)), some (.dat (.tuple rows)), some (.dat (.tuple (belowL ts))), a, b, none]
    ∃ s', if (List.range ts.length).all (fun i => rowOk ts i ((rows[i]?).getD .none)) then
        rFor (rGo enumOf (rAc (getSl 1) rA0)) (unT 2 (gsCons (putSl 3) (gsCons (putSl 4) gsNil)))
          (thenS (rIf (orT (rNotT (rT (rIsi "tuple" (getSl 4)))) (orT (rT (rO gNe (rC gLen (rAc (getSl 4) rA0)) (rI 2))) (rNotT (rT (rC (callD f_is_number [false, false, false]) (rAc (rO gIx (getSl 4) (rI 0)) (rAc (rI 0) (rAc (rI (61000000)) rA0))))))))
            (rRet (rB false)) (pure .nx))
          (rIf (rNotT (rT (rC (callD f_are_some [false, false]) (rAc (rO gIx (getSl 2) (getSl 3)) (rAc (rO gIx (getSl 4) (rI 1)) rA0))))) (rRet (rB false)) (pure .nx))) (S none none) = some (.ok .nx s') ∧ (∃ a b : Option D, s' = S (a.map .dat) (b.map .dat))
      else rFor (rGo enumOf (rAc (getSl 1) rA0)) (unT 2 (gsCons (putSl 3) (gsCons (putSl 4) gsNil)))
          (thenS (rIf (orT (rNotT (rT (rIsi "tuple" (getSl 4)))) (orT (rT (rO gNe (rC gLen (rAc (getSl 4) rA0)) (rI 2))) (rNotT (rT (rC (callD f_is_number [false, false, false]) (rAc (rO gIx (getSl 4) (rI 0)) (rAc (rI 0) (rAc (rI (61000000)) rA0))))))))
            (rRet (rB false)) (pure .nx))
          (rIf (rNotT (rT (rC (callD f_are_some [false, false]) (rAc (rO gIx (getSl 2) (getSl 3)) (rAc (rO gIx (getSl 4) (rI 1)) rA0))))) (rRet (rB false)) (pure .nx))) (S none none) = some (.ok (.rt (.dat (.bool false))) s') := by
  intro S
  have q := for_idxB (s := S none none) (g := unT 2 (gsCons (putSl 3) (gsCons (putSl 4) gsNil))) (fb := thenS (rIf (orT (rNotT (rT (rIsi "tuple" (getSl 4)))) (orT (rT (rO gNe (rC gLen (rAc (getSl 4) rA0)) (rI 2))) (rNotT (rT (rC (callD f_is_number [false, false, false]) (rAc (rO gIx (getSl 4) (rI 0)) (rAc (rI 0) (rAc (rI (61000000)) rA0))))))))
            (rRet (rB false)) (pure .nx))
          (rIf (rNotT (rT (rC (callD f_are_some [false, false]) (rAc (rO gIx (getSl 2) (getSl 3)) (rAc (rO gIx (getSl 4) (rI 1)) rA0))))) (rRet (rB false)) (pure .nx)))
    (fun i => .tuple [nD i, (rows[i]?).getD .none]) (fun i => rowOk ts i ((rows[i]?).getD .none)) (.dat (.bool false)) ts.length (fun _ s => ∃ a b : Option D, s = S (a.map .dat) (b.map .dat)) ⟨none, none, rfl⟩ fun i s hi hr => by
      obtain ⟨a, b, rfl⟩ := hr
      generalize hd : (rows[i]?).getD .none = d
      have hdm : d ∈ rows := by
        rw [List.getElem?_eq_getElem (by omega)] at hd
        rw [← hd]
        exact List.getElem_mem _
      let U : DS := S (some (.dat (nD i))) (some (.dat d))
      refine ⟨U, U, by cases a <;> cases b <;> rfl, ?_⟩
      have t := run_row1 (s := U) (d := d) rfl
      by_cases h1 : ∃ b c, d = .tuple [b, c]
      · obtain ⟨b, c, rfl⟩ := h1
        cases hb : isNum b 0 61000000 with
        | false =>
          have e : rowOk ts i (.tuple [b, c]) = false := by
            show (isNum b 0 61000000 && _) = false
            rw [hb]
            rfl
          have e1 : rowOk1 (.tuple [b, c]) = false := hb
          rw [e1] at t
          rw [e]
          exact then_rt ((st_if t).trans rfl)
        | true =>
          have e : rowOk ts i (.tuple [b, c]) = areSome (kids ts i) c := by
            show (isNum b 0 61000000 && _) = _
            rw [hb]
            rfl
          have e1 : rowOk1 (.tuple [b, c]) = true := hb
          rw [e1] at t
          have t2 : Rn (rNotT (rT (rC (callD f_are_some [false, false]) (rAc (rO gIx (getSl 2) (getSl 3)) (rAc (rO gIx (getSl 4) (rI 1)) rA0))))) U (!areSome (kids ts i) c) :=
            rt_not (rt_val (ev_call (es := [natsD (kids ts i), c]) (ra_cons (ev_kids (ts := ts) (i := i) (ev_get (d := .tuple (belowL ts)) rfl) rfl (ev_get rfl) hi) (ra_cons (ev_ix (ev_get (d := .tuple [b, c]) rfl) (ev_int (i := 1)) rfl rfl) ra_nil)) (run_are_some fun es h => hw _ hdm b es (by rw [h]))))
          rw [e]
          cases hs : areSome (kids ts i) c with
          | false =>
            rw [hs] at t2
            exact (then_nx (s1 := U) ((st_if t).trans rfl)).trans ((st_if t2).trans rfl)
          | true =>
            rw [hs] at t2
            exact ⟨(then_nx (s1 := U) ((st_if t).trans rfl)).trans ((st_if t2).trans rfl), some (nD i), some (.tuple [b, c]), rfl⟩
      · have e1 : rowOk1 d = false := by
          unfold rowOk1
          split
          · exact absurd ⟨_, _, rfl⟩ h1
          · rfl
        have e : rowOk ts i d = false := by
          unfold rowOk
          split
          · exact absurd ⟨_, _, rfl⟩ h1
          · rfl
        rw [e1] at t
        rw [e]
        exact then_rt ((st_if t).trans rfl)
  have eit : (List.range ts.length).map (fun i => (.tuple [nD i, (rows[i]?).getD .none] : D)) = enumL 0 rows := by
    rw [enumL_range, hlen]
  rw [eit] at q
  have it : Rn (rGo enumOf (rAc (getSl 1) rA0)) (S none none) (enumL 0 rows) := it_enum (ra_cons (ev_get (d := .tuple rows) rfl) ra_nil) rfl
  obtain ⟨s', q⟩ := q
  refine ⟨s', ?_⟩
  unfold rFor
  rw [it.bind]
  exact q
theorem run_is_paper_kind (h : ∀ es, v ≠ .tuple es) : f_is_paper [(false, tksD ts), (false, v)] = some (.ok (.dat (.bool false)) []) := by
  let S : DS := [some (.dat (tksD ts)), some (.dat v), none, none, none, none]
  refine runF_dat (n := 6) (b := b_is_paper) (es := [tksD ts, v]) (s1 := S) ?_
  unfold b_is_paper
  have t1 : Rn (rNotT (rT (rIsi "tuple" (getSl 1)))) S (!isT "tuple" v) := rt_not (rt_val (ev_isi (rn_get (sv := .dat v) rfl) rfl))
  rw [isT_not h] at t1
  have t := rt_or (c' := rT (rO gNe (rC gLen (rAc (getSl 1) rA0)) (rC gLen (rAc (getSl 0) rA0)))) (y := true) t1 fun h => by cases h
  exact then_rt ((st_if t).trans rfl)
theorem run_look (rows : List D) : Rn (orT (rNotT (rT (rIsi "tuple" (getSl 1)))) (rT (rO gNe (rC gLen (rAc (getSl 1) rA0)) (rC gLen (rAc (getSl 0) rA0))))) [some (.dat (tksD ts)), some (.dat (.tuple rows)), none, none, none, none] (!decide ((rows.length : Int) = (ts.length : Int))) := by
  have q := rt_or (s := [some (.dat (tksD ts)), some (.dat (.tuple rows)), none, none, none, none]) (c := rNotT (rT (rIsi "tuple" (getSl 1)))) (c' := rT (rO gNe (rC gLen (rAc (getSl 1) rA0)) (rC gLen (rAc (getSl 0) rA0)))) (x := false) (y := !decide ((rows.length : Int) = ((ts.map tkD).length : Int)))
    (rt_not (rt_val (ev_isi (rn_get (sv := .dat (.tuple rows)) rfl) rfl))) fun _ => rt_val (rn_ne (ev_len (ra_cons (ev_get (k := 1) (d := .tuple rows) rfl) ra_nil) rfl rfl) (ev_len (ra_cons (ev_get (k := 0) (d := tksD ts) rfl) ra_nil) rfl rfl) rfl rfl rfl rfl)
  rw [List.length_map] at q
  exact q
theorem run_is_paper_len (h : rows.length ≠ ts.length) : f_is_paper [(false, tksD ts), (false, .tuple rows)] = some (.ok (.dat (.bool false)) []) := by
  refine runF_dat (n := 6) (b := b_is_paper) (es := [tksD ts, .tuple rows]) (s1 := [some (.dat (tksD ts)), some (.dat (.tuple rows)), none, none, none, none]) ?_
  unfold b_is_paper
  have t := run_look (ts := ts) rows
  rw [decide_eq_false (by omega)] at t
  exact then_rt ((st_if t).trans rfl)
theorem run_is_paper_row (hn : ts.length ≤ 16777215) (hp : ParOk ts) (hlen : rows.length = ts.length) (hw : ∀ d ∈ rows, ∀ b es, d = .tuple [b, .tuple es] → es.length < 16777216) (hb : (List.range ts.length).all (fun i => rowOk ts i ((rows[i]?).getD .none)) = false) :
    f_is_paper [(false, tksD ts), (false, .tuple rows)] = some (.ok (.dat (.bool false)) []) := by
  obtain ⟨s', q⟩ := run_rows (ts := ts) (rows := rows) hn hlen hw
  rw [hb] at q
  refine runF_dat (n := 6) (b := b_is_paper) (es := [tksD ts, .tuple rows]) (s1 := s') ?_
  unfold b_is_paper
  have t := run_look (ts := ts) rows
  rw [decide_eq_true (by omega)] at t
  refine (then_nx (s := [some (.dat (tksD ts)), some (.dat (.tuple rows)), none, none, none, none]) ((st_if t).trans rfl)).trans ?_
  refine (then_nx (s1 := [some (.dat (tksD ts)), some (.dat (.tuple rows)), some (.dat (.tuple (belowL ts))), none, none, none]) (st_setF (ev_call (es := [tksD ts]) (ra_cons (ev_get rfl) ra_nil) (run_children_in hn hp)) rfl)).trans ?_
  exact then_rt q
theorem inD_nats {c : Nat} {cs : List Nat} (h : inD (nD c) (cs.map nD) = true) : c ∈ cs := by
  unfold inD at h
  obtain ⟨d, hd, e⟩ := List.any_eq_true.mp h
  obtain ⟨x, hx, rfl⟩ := List.mem_map.mp hd
  rw [eqv_nD] at e
  have e := of_decide_eq_true e
  exact e ▸ hx
theorem areSome_in {cs sm : List Nat} (h : areSome cs (natsD sm) = true) : ∀ c ∈ sm, c ∈ cs := fun c hc => by
  have h : ((sm.map nD).all (okOne cs) && (upFrom 1 ((sm.map nD).length - 1)).all (ltAt (sm.map nD))) = true := h
  have h1 := List.all_eq_true.mp (Bool.and_eq_true_iff.mp h).1 (nD c) (List.mem_map.mpr ⟨c, hc, rfl⟩)
  unfold okOne at h1
  exact inD_nats (Bool.and_eq_true_iff.mp h1).2
theorem run_is_paper {v : Pap} (hn : ts.length ≤ 16777215) (hp : ParOk ts) (hlen : v.length = ts.length) (hw : ∀ r ∈ v, r.2.length < 16777216) (hb : (List.range ts.length).all (fun i => rowOk ts i (((v.map rowD)[i]?).getD .none)) = true) :
    f_is_paper [(false, tksD ts), (false, papD v)] = some (.ok (.dat (.bool (shownAll ts v))) []) := by
  obtain ⟨s', q⟩ := run_rows (ts := ts) (rows := v.map rowD) hn (by rw [List.length_map]; exact hlen) fun d hd b es e => by
    obtain ⟨r, hr, rfl⟩ := List.mem_map.mp hd
    have e : (PyData.tuple [.int r.1, natsD r.2]) = .tuple [b, .tuple es] := e
    injection e with e
    injection e with _ e
    injection e with e _
    injection e with e
    rw [← e, List.length_map]
    exact hw r hr
  rw [if_pos hb] at q
  obtain ⟨q1, a, b, rfl⟩ := q
  let S (a b c : Option SV) : DS := [some (.dat (tksD ts)), some (.dat (papD v)), some (.dat (.tuple (belowL ts))), a, b, c]
  refine runF_dat (n := 6) (b := b_is_paper) (es := [tksD ts, papD v]) (s1 := S (a.map .dat) (b.map .dat) (some (.dat (.list ((bds v).map .int))))) ?_
  unfold b_is_paper
  have t := run_look (ts := ts) (v.map rowD)
  rw [decide_eq_true (by rw [List.length_map]; omega)] at t
  refine (then_nx (s := [some (.dat (tksD ts)), some (.dat (papD v)), none, none, none, none]) ((st_if t).trans rfl)).trans ?_
  refine (then_nx (s1 := S none none none) (st_setF (ev_call (es := [tksD ts]) (ra_cons (ev_get rfl) ra_nil) (run_children_in hn hp)) rfl)).trans ?_
  refine (then_nx q1).trans ?_
  have e1 := lc_mapT (vs := [4]) (fi := rItems (getSl 1)) (g := putSl 4) (fe := rO gIx (getSl 4) (rI 0)) (s := S (a.map .dat) (b.map .dat) none) (l := v) rowD (fun r => .int r.1) (it_seq (ev_get (d := papD v) rfl) rfl) (by cases b <;> rfl) (by omega) fun r hr =>
    ⟨S (a.map .dat) (some (.dat (rowD r))) none, rfl, rfl, ev_ix (ev_get (d := rowD r) rfl) (ev_int (i := 0)) rfl rfl⟩
  have e2 : v.map (fun r => (.int r.1 : D)) = (bds v).map .int := by
    unfold bds
    rw [List.map_map]
    rfl
  rw [e2] at e1
  refine (then_nx (s1 := S (a.map .dat) (b.map .dat) (some (.dat (.list ((bds v).map .int))))) (st_setN e1 rfl)).trans ?_
  refine st_ret ?_
  have hnl : (bds v).length = ts.length := by unfold bds; rw [List.length_map]; exact hlen
  unfold shownAll
  refine ev_allT (l := List.range ts.length) (fun i => .tuple [nD i, ((v.map rowD)[i]?).getD .none]) _ ?_ (by cases a <;> cases b <;> rfl) fun i hi => ?_
  · have eit : (List.range ts.length).map (fun i => (.tuple [nD i, ((v.map rowD)[i]?).getD .none] : D)) = enumL 0 (v.map rowD) := by
      rw [enumL_range, List.length_map, hlen]
    rw [eit]
    exact it_enum (ra_cons (ev_get (d := papD v) rfl) ra_nil) rfl
  · have hi := List.mem_range.mp hi
    have hiv : i < v.length := by omega
    have er : ((v.map rowD)[i]?).getD .none = rowD v[i] := by
      rw [List.getElem?_map, List.getElem?_eq_getElem hiv]
      rfl
    have es : somAt v i = v[i].2 := by
      unfold somAt
      rw [List.getElem?_eq_getElem hiv]
      rfl
    have hr := List.all_eq_true.mp hb i (List.mem_range.mpr hi)
    rw [er] at hr
    have hr : (isNum (.int v[i].1) 0 61000000 && areSome (kids ts i) (natsD v[i].2)) = true := hr
    have hin := areSome_in (Bool.and_eq_true_iff.mp hr).2
    have hlw := hw v[i] (List.getElem_mem hiv)
    rw [er, es]
    refine ⟨S (some (.dat (nD i))) (some (.dat (rowD v[i]))) (some (.dat (.list ((bds v).map .int)))), rfl, rfl, ?_⟩
    exact ev_call (es := [tksD ts, .tuple (belowL ts), .list ((bds v).map .int), nD i, natsD v[i].2]) (ra_cons (ev_get rfl) (ra_cons (ev_get rfl) (ra_cons (ev_get rfl) (ra_cons (ev_get rfl) (ra_cons (ev_ix (ev_get (d := rowD v[i]) rfl) (ev_int (i := 1)) rfl rfl) ra_nil))))) (run_is_shown hi (by omega) hnl (fun c hc => kids_lt (hin c hc)) (by omega))
end
/-! ### proves_least -/
def topMost (ts : List Tk) (bs : List Int) : Int := if topsOf ts = [] then 0 else maxL ((topsOf ts).map (intAt bs))
theorem tops_lt {ts : List Tk} {c : Nat} (h : c ∈ topsOf ts) : c < ts.length := List.mem_range.mp (List.mem_filter.mp h).1
theorem run_proves_no {ts : List Tk} {v : D} {k : Int} (h : f_is_paper [(false, tksD ts), (false, v)] = some (.ok (.dat (.bool false)) [])) : f_proves_least [(false, tksD ts), (false, .int k), (false, v)] = some (.ok (.dat (.bool false)) []) := by
  let S : DS := [some (.dat (tksD ts)), some (.dat (.int k)), some (.dat v), none]
  refine runF_dat (n := 4) (b := b_proves_least) (es := [tksD ts, .int k, v]) (s1 := S) ?_
  unfold b_proves_least
  exact st_ret (ev_and (y := false) (ev_call (es := [tksD ts, v]) (ra_cons (ev_get rfl) (ra_cons (ev_get rfl) ra_nil)) h) fun h => by cases h)
theorem ev_maxD {s : DS} {fr : M (List R)} {fo : M R} {ns : List Int} {i : Int} (h1 : Rn fr s [.new (.list (ns.map .int))]) (h2 : Ev fo s (.int i)) : Ev (rMaxD fr fo) s (.int (if ns = [] then i else maxL ns)) := by
  unfold Ev Rn rMaxD
  rw [h1.bind, h2.bind]
  unfold gMaxDef
  rw [bind_ok (m := one _) (a := .new (.list (ns.map .int))) (s' := s) rfl, bind_ok (m := dat _) (a := .list (ns.map .int)) (s' := s) rfl, bind_ok (m := asInt _) (a := i) (s' := s) rfl]
  simp only
  rw [intsOf_map]
  rfl
theorem run_proves {ts : List Tk} {v : Pap} {k : Int} {b : Bool} (hn : ts.length ≤ 16777215) (hlen : v.length = ts.length) (h : f_is_paper [(false, tksD ts), (false, papD v)] = some (.ok (.dat (.bool b)) [])) :
    f_proves_least [(false, tksD ts), (false, .int k), (false, papD v)] = some (.ok (.dat (.bool (b && decide (topMost ts (bds v) = k)))) []) := by
  let S (a : Option SV) : DS := [some (.dat (tksD ts)), some (.dat (.int k)), some (.dat (papD v)), a]
  refine runF_dat (n := 4) (b := b_proves_least) (es := [tksD ts, .int k, papD v]) (s1 := S none) ?_
  unfold b_proves_least
  refine st_ret (ev_and (ev_call (es := [tksD ts, papD v]) (ra_cons (ev_get rfl) (ra_cons (ev_get rfl) ra_nil)) h) fun _ => ?_)
  have q := lc_mapT (vs := [3]) (fi := rItems (rC (callD f_tops_in [false]) (rAc (getSl 0) rA0))) (g := putSl 3) (fe := rO gIx (rO gIx (getSl 2) (getSl 3)) (rI 0)) (s := S none) (l := topsOf ts) nD (fun c => .int (intAt (bds v) c))
    (it_seq (d := natsD (topsOf ts)) (ev_call (es := [tksD ts]) (ra_cons (ev_get rfl) ra_nil) (run_tops_in (by omega))) rfl) rfl (by
      have := List.length_filter_le (fun c => (parOf ts c).isNone) (List.range ts.length)
      rw [List.length_range] at this
      unfold topsOf
      omega) fun c hc => by
      have hc := tops_lt hc
      have hcv : c < v.length := by omega
      refine ⟨S (some (.dat (nD c))), rfl, rfl, ?_⟩
      have e : intAt (bds v) c = v[c].1 := by
        unfold intAt bds
        rw [List.getElem?_map, List.getElem?_eq_getElem hcv]
        rfl
      rw [e]
      exact ev_ix (ev_ix (ev_get (d := papD v) rfl) (ev_get (d := nD c) rfl) rfl (atI_map (f := rowD) hcv)) (ev_int (i := 0)) rfl rfl
  have e1 : (topsOf ts).map (fun c => (.int (intAt (bds v) c) : D)) = ((topsOf ts).map (intAt (bds v))).map .int := by
    rw [List.map_map]
    rfl
  rw [e1] at q
  have q2 := rn_eq (ev_maxD (ra_cons q ra_nil) (ev_int (i := 0))) (ev_get (s := S none) (k := 1) (d := .int k) rfl) rfl rfl rfl rfl
  have e2 : (if (topsOf ts).map (intAt (bds v)) = [] then 0 else maxL ((topsOf ts).map (intAt (bds v)))) = topMost ts (bds v) := by
    unfold topMost
    by_cases h : topsOf ts = []
    · rw [if_pos h, h]
      rfl
    · rw [if_neg h, if_neg (by simpa using h)]
  rw [e2] at q2
  exact q2
end Den
/-! PT: shaped data; == []; _law_alike -/
namespace Den
open PySem PyProof.Rows L2 K70
def shp (k : Nat) (d : D) : Prop := d.canLay0 = true ∧ d.depth ≤ k
theorem shp_all {k : Nat} : ∀ {es : List D}, (∀ e ∈ es, shp k e) → PyData.canLayAll0 es = true ∧ PyData.depthAll es ≤ k
  | [], _ => ⟨by simp [PyData.canLayAll0], by simp [PyData.depthAll]⟩
  | e :: es, h => by
    obtain ⟨h1, h2⟩ := shp_all fun x hx => h x (List.mem_cons_of_mem _ hx)
    obtain ⟨h3, h4⟩ := h e List.mem_cons_self
    refine ⟨by simp [PyData.canLayAll0, h1, h3], ?_⟩
    simp only [PyData.depthAll]
    omega
theorem shp_tup {k : Nat} {es : List D} (h : ∀ e ∈ es, shp k e) : shp (k + 1) (.tuple es) := by
  obtain ⟨h1, h2⟩ := shp_all h
  refine ⟨by simp [PyData.canLay0, h1], ?_⟩
  simp only [PyData.depth]
  omega
theorem shp_lst {k : Nat} {es : List D} (h : ∀ e ∈ es, shp k e) : shp (k + 1) (.list es) := by
  obtain ⟨h1, h2⟩ := shp_all h
  refine ⟨by simp [PyData.canLay0, h1], ?_⟩
  simp only [PyData.depth]
  omega
theorem shp_int {k : Nat} {i : Int} : shp k (.int i) := ⟨by simp [PyData.canLay0], by simp [PyData.depth]⟩
theorem shp_bool {k : Nat} {i : Bool} : shp k (.bool i) := ⟨by simp [PyData.canLay0], by simp [PyData.depth]⟩
theorem shp_none {k : Nat} : shp k .none := ⟨by simp [PyData.canLay0], by simp [PyData.depth]⟩
theorem shp_le {k j : Nat} {d : D} (h : shp k d) (e : k ≤ j) : shp j d := ⟨h.1, by have := h.2; omega⟩
theorem shp_ok {k : Nat} {d : D} (h : shp k d) (e : k ≤ 64 := by decide) : SeqAt.shaped d = true := by
  unfold SeqAt.shaped
  rw [h.1, decide_eq_true (by have := h.2; omega)]
  rfl
theorem shp_nats (l : List Nat) : shp 1 (natsD l) := shp_tup fun e he => by
  obtain ⟨n, _, rfl⟩ := List.mem_map.mp he
  exact shp_int
theorem shp_natsL (l : List Nat) : shp 1 (.list (l.map nD)) := shp_lst fun e he => by
  obtain ⟨n, _, rfl⟩ := List.mem_map.mp he
  exact shp_int
theorem shp_row (r : Int × List Nat) : shp 2 (rowD r) := shp_tup fun e he => by
  rcases List.mem_cons.mp he with rfl | he
  · exact shp_int
  · rcases List.mem_cons.mp he with rfl | he
    · exact shp_nats _
    · cases he
theorem shp_pap (v : Pap) : shp 3 (papD v) := shp_tup fun e he => by
  obtain ⟨r, _, rfl⟩ := List.mem_map.mp he
  exact shp_row r
theorem eqv_nilL (es : List D) : PyData.eqv (.list es) (.list []) = es.isEmpty := by
  cases es <;> simp [PyData.eqv, PyData.eqvAll]
theorem eqv_nilT (es : List D) : PyData.eqv (.tuple es) (.tuple []) = es.isEmpty := by
  cases es <;> simp [PyData.eqv, PyData.eqvAll]
section
variable {s : DS} {fa : M R} {r : R} {es : List D}
theorem ev_eqNil {k : Nat} (h : Rn fa s r) (e : dOf s r = some (.list es)) (hs : ∀ x ∈ es, shp k x) (hk : k < 64 := by decide) : Ev (rO gEq fa (rC mkL rA0)) s (.bool es.isEmpty) := by
  have q := rn_eq h (rn_lst (s := s) (es := []) ra_nil (Nat.zero_le _)) e rfl (shp_ok (shp_lst hs) (by omega)) (shp_ok (shp_lst (k := 0) (es := []) fun x hx => by cases hx))
  rwa [eqv_nilL] at q
theorem ev_neNil {k : Nat} (h : Rn fa s r) (e : dOf s r = some (.list es)) (hs : ∀ x ∈ es, shp k x) (hk : k < 64 := by decide) : Ev (rO gNe fa (rC mkL rA0)) s (.bool (!es.isEmpty)) := by
  have q := rn_ne h (rn_lst (s := s) (es := []) ra_nil (Nat.zero_le _)) e rfl (shp_ok (shp_lst hs) (by omega)) (shp_ok (shp_lst (k := 0) (es := []) fun x hx => by cases hx))
  rwa [eqv_nilL] at q
theorem ev_eqNilT {k : Nat} (h : Rn fa s r) (e : dOf s r = some (.tuple es)) (hs : ∀ x ∈ es, shp k x) (hk : k < 64 := by decide) : Ev (rO gEq fa (rC mkT rA0)) s (.bool es.isEmpty) := by
  have q := rn_eq h (ev_tup (s := s) (es := []) ra_nil (Nat.zero_le _)) e rfl (shp_ok (shp_tup hs) (by omega)) (shp_ok (shp_tup (k := 0) (es := []) fun x hx => by cases hx))
  rwa [eqv_nilT] at q
end
theorem shp_nat_mem {l : List Nat} : ∀ x ∈ l.map nD, shp 0 x := fun x hx => by
  obtain ⟨n, _, rfl⟩ := List.mem_map.mp hx
  exact shp_int
/-! ### _law_alike -/
abbrev Alk (n : Nat) (a b : D) (x : Bool) : Prop := fr_u_law_alike n [(false, a), (false, b)] = some (.ok (.dat (.bool x)) [])
section
variable {a b : D} {as bs : List D} {n : Nat}
theorem filter_isEmpty (l : List Nat) (r : Nat → Bool) : ((l.filter fun k => !r k).map nD).isEmpty = l.all r := by
  induction l with
  | nil => rfl
  | cons x l ih =>
    rw [List.filter_cons, List.all_cons]
    cases r x with
    | true => exact ih
    | false => rfl
theorem alk_seq {x y : Bool} {r : Nat → Bool} (xy : (x || y) = true) (a1 : isT "list" a = x) (b1 : isT "list" b = x) (a2 : isT "tuple" a = y) (b2 : isT "tuple" b = y) (ha : seqOf a = some as) (hb : seqOf b = some bs) (hl : as.length = bs.length) (hz : bs.length ≤ 16777216)
    (h : ∀ k, (h1 : k < as.length) → (h2 : k < bs.length) → Alk n as[k] bs[k] (r k)) : Alk (n + 1) a b ((List.range bs.length).all r) := by
  let S (k : Option SV) : DS := [some (.dat a), some (.dat b), k]
  have g0 : Rn (getSl 0) (S none) (.dat a) := rn_get (sv := .dat a) rfl
  have g1 : Rn (getSl 1) (S none) (.dat b) := rn_get (sv := .dat b) rfl
  refine runF_dat (n := 3) (b := b_u_law_alike (fr_u_law_alike n)) (es := [a, b]) (s1 := S none) ?_
  unfold b_u_law_alike
  have t1 : Rn (orT (rT (rIsi "list" (getSl 1))) (rT (rIsi "tuple" (getSl 1)))) (S none) (isT "list" b || isT "tuple" b) := rt_or (rt_val (ev_isi g1 rfl)) fun _ => rt_val (ev_isi g1 rfl)
  rw [b1, b2, xy] at t1
  refine then_rt ((st_if t1).trans ?_)
  rw [if_pos rfl]
  have sb : ∀ z : Bool, SeqAt.shaped (.bool z) = true := fun z => shp_ok (k := 0) shp_bool
  have ee : ∀ z : Bool, (!PyData.eqv (.bool z) (.bool z)) = false := fun z => by cases z <;> rfl
  have t2 : Rn (orT (rT (rO gNe (rIsi "list" (getSl 0)) (rIsi "list" (getSl 1)))) (rT (rO gNe (rIsi "tuple" (getSl 0)) (rIsi "tuple" (getSl 1))))) (S none) (!PyData.eqv (.bool (isT "list" a)) (.bool (isT "list" b)) || !PyData.eqv (.bool (isT "tuple" a)) (.bool (isT "tuple" b))) :=
    rt_or (rt_val (rn_ne (ev_isi g0 rfl) (ev_isi g1 rfl) rfl rfl (sb _) (sb _))) fun _ => rt_val (rn_ne (ev_isi g0 rfl) (ev_isi g1 rfl) rfl rfl (sb _) (sb _))
  rw [a1, b1, a2, b2, ee, ee] at t2
  refine (then_nx (s1 := S none) ((st_if t2).trans rfl)).trans (st_ret ?_)
  have l0 : Ev (rC gLen (rAc (getSl 0) rA0)) (S none) (.int as.length) := ev_len (ra_cons g0 ra_nil) rfl ha
  have l1 : Ev (rC gLen (rAc (getSl 1) rA0)) (S none) (.int bs.length) := ev_len (ra_cons g1 ra_nil) rfl hb
  have e1 : Ev (rO gEq (rC gLen (rAc (getSl 0) rA0)) (rC gLen (rAc (getSl 1) rA0))) (S none) (.bool true) := by
    have q := rn_eq l0 l1 rfl rfl rfl rfl
    rw [eqv_int, decide_eq_true (by omega)] at q
    exact q
  have it : Rn (rGo rng1 (rAc (rC gLen (rAc (getSl 1) rA0)) rA0)) (S none) ((List.range bs.length).map nD) := by
    have q := it_range1 (n := bs.length) (ra_cons l1 ra_nil) (by omega)
    rwa [upFrom_nat] at q
  have q := lc_T (vs := [2]) (fi := rGo rng1 (rAc (rC gLen (rAc (getSl 1) rA0)) rA0)) (g := putSl 2) (ft := rNotT (rT (rC (callD (fr_u_law_alike n) [false, false]) (rAc (rO gIx (getSl 0) (getSl 2)) (rAc (rO gIx (getSl 1) (getSl 2)) rA0))))) (fe := getSl 2) (s := S none) (l := List.range bs.length) nD (fun k => !r k) nD it rfl (by rw [List.length_range]; exact hz) fun k hk => by
    have hk := List.mem_range.mp hk
    refine ⟨S (some (.dat (nD k))), rfl, rfl, ?_, fun _ => ev_get rfl⟩
    exact rt_not (rt_val (ev_call (es := [as[k]'(by omega), bs[k]]) (ra_cons (ev_ix (ev_get (d := a) rfl) (ev_get (d := nD k) rfl) ha (atI_nat (List.getElem?_eq_getElem (by omega)))) (ra_cons (ev_ix (ev_get (d := b) rfl) (ev_get (d := nD k) rfl) hb (atI_nat (List.getElem?_eq_getElem (by omega)))) ra_nil)) (h k (by omega) hk)))
  have e2 := ev_eqNil q rfl shp_nat_mem
  rw [filter_isEmpty] at e2
  exact ev_and e1 fun _ => e2
theorem alk_tup {r : Nat → Bool} (hl : as.length = bs.length) (hz : bs.length ≤ 16777216) (h : ∀ k, (h1 : k < as.length) → (h2 : k < bs.length) → Alk n as[k] bs[k] (r k)) : Alk (n + 1) (.tuple as) (.tuple bs) ((List.range bs.length).all r) := alk_seq (x := false) (y := true) rfl rfl rfl rfl rfl rfl rfl hl hz h
theorem alk_lst {r : Nat → Bool} (hl : as.length = bs.length) (hz : bs.length ≤ 16777216) (h : ∀ k, (h1 : k < as.length) → (h2 : k < bs.length) → Alk n as[k] bs[k] (r k)) : Alk (n + 1) (.list as) (.list bs) ((List.range bs.length).all r) := alk_seq (x := true) (y := false) rfl rfl rfl rfl rfl rfl rfl hl hz h
theorem alk_bool (x y : Bool) : Alk (n + 1) (.bool x) (.bool y) (x == y) := by
  let S : DS := [some (.dat (.bool x)), some (.dat (.bool y)), none]
  have g0 : Rn (getSl 0) S (.dat (.bool x)) := rn_get (sv := .dat (.bool x)) rfl
  have g1 : Rn (getSl 1) S (.dat (.bool y)) := rn_get (sv := .dat (.bool y)) rfl
  refine runF_dat (n := 3) (b := b_u_law_alike (fr_u_law_alike n)) (es := [.bool x, .bool y]) (s1 := S) ?_
  unfold b_u_law_alike
  have t1 : Rn (orT (rT (rIsi "list" (getSl 1))) (rT (rIsi "tuple" (getSl 1)))) S false := rt_or (x := false) (y := false) (rt_val (ev_isi g1 rfl)) fun _ => rt_val (ev_isi g1 rfl)
  refine (then_nx (s1 := S) ((st_if t1).trans rfl)).trans ?_
  refine (then_nx (s1 := S) ((st_if (rt_val (ev_isN g1))).trans rfl)).trans ?_
  have t3 : Rn (orT (rT (rIsi "bool" (getSl 1))) (rT (rIsi "bool" (getSl 0)))) S true := rt_or (x := true) (y := false) (rt_val (ev_isi g1 rfl)) fun h => by cases h
  refine then_rt ((st_if t3).trans ?_)
  rw [if_pos rfl]
  have q : Ev (andD (rIsi "bool" (getSl 0)) (andD (rIsi "bool" (getSl 1)) (rO gEq (getSl 0) (getSl 1)))) S (.bool (true && (true && PyData.eqv (.bool x) (.bool y)))) := ev_and (ev_isi g0 rfl) fun _ => ev_and (ev_isi g1 rfl) fun _ => rn_eq g0 g1 rfl rfl rfl rfl
  exact st_ret q
theorem alk_int (i j : Int) : Alk (n + 1) (.int i) (.int j) (decide (i = j)) := by
  let S : DS := [some (.dat (.int i)), some (.dat (.int j)), none]
  have g0 : Rn (getSl 0) S (.dat (.int i)) := rn_get (sv := .dat (.int i)) rfl
  have g1 : Rn (getSl 1) S (.dat (.int j)) := rn_get (sv := .dat (.int j)) rfl
  refine runF_dat (n := 3) (b := b_u_law_alike (fr_u_law_alike n)) (es := [.int i, .int j]) (s1 := S) ?_
  unfold b_u_law_alike
  have t1 : Rn (orT (rT (rIsi "list" (getSl 1))) (rT (rIsi "tuple" (getSl 1)))) S false := rt_or (x := false) (y := false) (rt_val (ev_isi g1 rfl)) fun _ => rt_val (ev_isi g1 rfl)
  refine (then_nx (s1 := S) ((st_if t1).trans rfl)).trans ?_
  refine (then_nx (s1 := S) ((st_if (rt_val (ev_isN g1))).trans rfl)).trans ?_
  have t3 : Rn (orT (rT (rIsi "bool" (getSl 1))) (rT (rIsi "bool" (getSl 0)))) S false := rt_or (x := false) (y := false) (rt_val (ev_isi g1 rfl)) fun _ => rt_val (ev_isi g0 rfl)
  refine (then_nx (s1 := S) ((st_if t3).trans rfl)).trans ?_
  refine then_rt ((st_if (rt_val (ev_isi (T := "int") (d := .int j) g1 rfl))).trans ?_)
  have q : Ev (andD (rIsi "int" (getSl 0)) (rO gEq (getSl 0) (getSl 1))) S (.bool (true && PyData.eqv (.int i) (.int j))) := ev_and (ev_isi g0 rfl) fun _ => rn_eq g0 g1 rfl rfl rfl rfl
  exact st_ret q
theorem all_true (n : Nat) : (List.range n).all (fun _ => true) = true := by
  rw [List.all_eq_true]
  intro _ _
  rfl
theorem alk_nats (l : List Nat) (hl : l.length ≤ 16777216) : Alk (n + 2) (natsD l) (natsD l) true := by
  have q := alk_tup (n := n + 1) (as := l.map nD) (bs := l.map nD) (r := fun _ => true) rfl (by rw [List.length_map]; exact hl) fun k h1 h2 => by
    rw [List.getElem_map]
    have q := alk_int (n := n) (l[k]'(by simpa using h1)) (l[k]'(by simpa using h1))
    rwa [decide_eq_true rfl] at q
  rwa [all_true] at q
theorem alk_row (r : Int × List Nat) (hl : r.2.length ≤ 16777216) : Alk (n + 3) (rowD r) (rowD r) true := by
  have q := alk_tup (n := n + 2) (as := [.int r.1, natsD r.2]) (bs := [.int r.1, natsD r.2]) (r := fun _ => true) rfl (show 2 ≤ 16777216 by decide) fun k h1 h2 => by
    match k, h1 with
    | 0, _ =>
      have q := alk_int (n := n + 1) r.1 r.1
      rwa [decide_eq_true rfl] at q
    | 1, _ => exact alk_nats r.2 hl
  exact q
theorem alk_pap (v : Pap) (hv : v.length ≤ 16777216) (hl : ∀ r ∈ v, r.2.length ≤ 16777216) : Alk (n + 4) (papD v) (papD v) true := by
  have q := alk_tup (n := n + 3) (as := v.map rowD) (bs := v.map rowD) (r := fun _ => true) rfl (by rw [List.length_map]; exact hv) fun k h1 h2 => by
    rw [List.getElem_map]
    exact alk_row _ (hl _ (List.getElem_mem _))
  rwa [all_true] at q
theorem alk_pair (x y z w : Bool) : Alk (n + 2) (.list [.bool x, .bool y]) (.list [.bool z, .bool w]) ((x == z) && (y == w)) := by
  have q := alk_lst (n := n + 1) (as := [.bool x, .bool y]) (bs := [.bool z, .bool w]) (r := fun k => if k = 0 then x == z else y == w) rfl (show 2 ≤ 16777216 by decide) fun k h1 h2 => by
    match k, h1 with
    | 0, _ => exact alk_bool x z
    | 1, _ => exact alk_bool y w
  have e : (List.range [PyData.bool z, PyData.bool w].length).all (fun k => if k = 0 then x == z else y == w) = ((x == z) && (y == w)) := by
    show ((x == z) && ((y == w) && true)) = _
    rw [Bool.and_true]
  have q2 : Alk (n + 1 + 1) (.list [.bool x, .bool y]) (.list [.bool z, .bool w]) ((x == z) && (y == w)) := e ▸ q
  exact q2
end
end Den
/-! PU: _law_draws -/
namespace Den
open PySem PyProof.Rows L2 K70
section
variable {s : DS} {fa fb : M R} {i j : Int}
theorem ev_abs (h : Ev fa s (.int i)) : Ev (rC gAbs (rAc fa rA0)) s (.int (if i < 0 then -i else i)) := rn_c (ra_cons h ra_nil) rfl
theorem ev_intOf (h : Ev fa s (.int i)) : Ev (rC gInt (rAc fa rA0)) s (.int i) := rn_c (ra_cons h ra_nil) rfl
theorem ev_pow (h1 : Ev fa s (.int i)) (h2 : Ev fb s (.int j)) (h : 0 ≤ j ∧ j ≤ 1000000 ∧ i.natAbs < 18446744073709551616) : Ev (rO gPow fa fb) s (.int (i ^ j.toNat)) := h1.o h2 (by
  show (need (decide (0 ≤ j ∧ j ≤ 1000000 ∧ i.natAbs < 18446744073709551616)) >>= fun _ => (pure (.dat (.int (i ^ j.toNat))) : M R)) s = _
  rw [run_bind, run_need, decide_eq_true h]
  rfl)
theorem ev_mulC (h1 : Ev fa s (.int i)) (h : -18446744073709551616 < j ∧ j < 18446744073709551616) : Ev (rO gMul fa (rI j)) s (.int (i * j)) := ev_mul h1 ev_int (by
  unfold mulOk
  exact decide_eq_true (.inr h))
theorem it_const {n : Nat} (hn : n < 4611686018427387904) : Rn (rGo rng1 (rAc (rI (n : Int)) rA0)) s ((List.range n).map nD) := by
  have q := it_range1 (s := s) (n := n) (ra_cons ev_int ra_nil) hn
  rwa [upFrom_nat] at q
end
theorem st_appI {s : DS} {k : Nat} {fa : M R} {xs : List Int} {i : Int} (hk : s[k]? = some (some (.own (.list (xs.map .int))))) (h : Ev fa s (.int i)) (hl : xs.length < 16777216) : rExpr (rAppend (getSl k) (rAc fa rA0)) s = some (.ok .nx (s.set k (some (.own (.list ((xs ++ [i]).map .int)))))) := by
  rw [st_app hk h (by rw [List.length_map]; exact hl), List.map_append]
  rfl
theorem run_draws (ns : List Int) (hn : ns.length ≤ 63) : ∃ xs : List Int, f_u_law_draws [(false, scriptD (ns.map .int))] = some (.ok (.own (.list (xs.map .int))) []) := by
  let S (xs : List Int) (p m f k d : Option D) : DS := [some (.dat (scriptD (ns.map .int))), some (.own (.list (xs.map .int))), p.map .dat, m.map .dat, f.map .dat, k.map .dat, d.map .dat]
  let inner : M Fl := (rIf (rT (rO gGt (getSl 3) (rI 0)))
 (thenS (rExpr (rAppend (getSl 1) (rAc (rO gMod (rC gInt (rAc (getSl 3) rA0)) (rI 997)) rA0)))
 (rAsg (rO gFdiv (getSl 3) (rI 997)) (putSl 3)))
 (pure .nx))
  -- the digits of a number
  have digits : ∀ (xs : List Int) (p f k d : Option D) (m : Int), xs.length ≤ 10000 → ∃ s', rFor (rGo rng1 (rAc (rI 60) rA0)) (putSl 5) inner (S xs p (some (.int m)) f k d) = some (.ok .nx s') ∧ ∃ ys : List Int, ys.length ≤ xs.length + 60 ∧ ∃ (m' : Int) (k' : Option D), s' = S ys p (some (.int m')) f k' d := by
    intro xs p f k d m hx
    obtain ⟨s', h1, h2⟩ := for_idx (s := S xs p (some (.int m)) f k d) (g := putSl 5) (fb := inner) nD 60 (fun i s => ∃ ys : List Int, ys.length ≤ xs.length + i ∧ ∃ (m' : Int) (k' : Option D), s = S ys p (some (.int m')) f k' d) ⟨xs, Nat.le_refl _, m, k, rfl⟩ fun i s hi ⟨ys, hy, m', k', e⟩ => by
      subst e
      have t := rt_val (ev_gt (s := S ys p (some (.int m')) f (some (nD i)) d) (ev_get (k := 3) (d := .int m') rfl) (ev_int (i := 0)))
      refine ⟨S ys p (some (.int m')) f (some (nD i)) d, ?_⟩
      by_cases hm : 0 < m'
      · rw [decide_eq_true hm] at t
        refine ⟨S (ys ++ [m' % 997]) p (some (.int (m' / 997))) f (some (nD i)) d, by cases k' <;> rfl, (st_if t).trans ?_, ys ++ [m' % 997], by rw [List.length_append]; show ys.length + 1 ≤ _; omega, m' / 997, some (nD i), rfl⟩
        rw [if_pos rfl]
        refine (then_nx (s1 := S (ys ++ [m' % 997]) p (some (.int m')) f (some (nD i)) d) (st_appI (k := 1) (xs := ys) rfl (ev_mod (ev_intOf (ev_get rfl)) ev_int (by decide)) (by omega))).trans ?_
        exact st_asg (ev_fdiv (i := m') (j := 997) (ev_get rfl) ev_int (by decide)) rfl
      · rw [decide_eq_false hm] at t
        exact ⟨S ys p (some (.int m')) f (some (nD i)) d, by cases k' <;> rfl, (st_if t).trans rfl, ys, by omega, m', some (nD i), rfl⟩
    exact ⟨s', ((it_const (n := 60) (by decide)).bind).trans h1, h2⟩
  -- one number of the script
  obtain ⟨s1, h1, xs1, hx1, p1, m1, f1, k1, e1⟩ := for_pre (s := S [] none none none none none) (g := putSl 2) (fb := thenS (rAsg (rC gAbs (rAc (getSl 2) rA0)) (putSl 3))
 (thenS (rIf (rT (rO gLt (getSl 3) (rO gPow (rI 10) (rI 18))))
 (thenS (rAsg (rO gMod (rC gInt (rAc (rO gAdd (rO gMul (getSl 3) (rI 48271)) (rI 11)) rA0)) (rI 2147483647)) (putSl 4))
 (thenS (rExpr (rAppend (getSl 1) (rAc (rO gMod (rC gInt (rAc (rO gAdd (rO gMul (getSl 4) (rI 69621)) (getSl 3)) rA0)) (rI 2147483629)) rA0)))
 (thenS (rExpr (rAppend (getSl 1) (rAc (rO gMod (rC gInt (rAc (rO gAdd (getSl 4) (rO gFdiv (getSl 3) (rI 7))) rA0)) (rI 1000003)) rA0)))
 (rAsg (rI 0) (putSl 3)))))
 (pure .nx))
 (rFor (rGo rng1 (rAc (rI 60) rA0)) (putSl 5) inner))) PyData.int ns (fun pre s => ∃ xs : List Int, xs.length ≤ 62 * pre.length ∧ ∃ p m f k : Option D, s = S xs p m f k none) ⟨[], Nat.le_refl _, none, none, none, none, rfl⟩ fun pre z post s e ⟨xs, hx, p, m, f, k, es⟩ => by
    subst es
    have hpl : pre.length < 63 := by
      rw [e, List.length_append, List.length_cons] at hn
      omega
    let a : Int := if z < 0 then -z else z
    have t := rt_val (ev_lt (s := S xs (some (.int z)) (some (.int a)) f k none) (ev_get (k := 3) (d := .int a) rfl) (ev_pow (i := 10) (j := 18) ev_int ev_int (by decide)))
    have g1 : rAsg (rC gAbs (rAc (getSl 2) rA0)) (putSl 3) (S xs (some (.int z)) m f k none) = some (.ok .nx (S xs (some (.int z)) (some (.int a)) f k none)) := st_asg (ev_abs (ev_get rfl)) (by cases m <;> rfl)
    have e2 : (pre ++ [z]).length = pre.length + 1 := by
      rw [List.length_append]
      rfl
    by_cases hs : a < 10 ^ (18 : Int).toNat
    · rw [decide_eq_true hs] at t
      let f2 : Int := (a * 48271 + 11) % 2147483647
      let d1 : Int := (f2 * 69621 + a) % 2147483629
      let d2 : Int := (f2 + a / 7) % 1000003
      obtain ⟨s', q1, ys, hy, m', k', q2⟩ := digits ((xs ++ [d1]) ++ [d2]) (some (.int z)) (some (.int f2)) k none 0 (by rw [List.length_append, List.length_append]; show xs.length + 1 + 1 ≤ _; omega)
      refine ⟨S xs (some (.int z)) m f k none, s', by cases p <;> rfl, (then_nx g1).trans ((then_nx (s1 := S ((xs ++ [d1]) ++ [d2]) (some (.int z)) (some (.int 0)) (some (.int f2)) k none) ((st_if t).trans ?_)).trans q1), ys, ?_, some (.int z), some (.int m'), some (.int f2), k', q2⟩
      · rw [if_pos rfl]
        refine (then_nx (s1 := S xs (some (.int z)) (some (.int a)) (some (.int f2)) k none) (st_asg (ev_mod (ev_intOf (ev_add (ev_mulC (ev_get rfl) (by decide)) ev_int)) ev_int (by decide)) (by cases f <;> rfl))).trans ?_
        refine (then_nx (s1 := S (xs ++ [d1]) (some (.int z)) (some (.int a)) (some (.int f2)) k none) (st_appI (k := 1) (xs := xs) rfl (ev_mod (ev_intOf (ev_add (ev_mulC (ev_get rfl) (by decide)) (ev_get rfl))) ev_int (by decide)) (by omega))).trans ?_
        refine (then_nx (s1 := S ((xs ++ [d1]) ++ [d2]) (some (.int z)) (some (.int a)) (some (.int f2)) k none) (st_appI (k := 1) (xs := xs ++ [d1]) rfl (ev_mod (ev_intOf (ev_add (ev_get rfl) (ev_fdiv (ev_get rfl) ev_int (by decide)))) ev_int (by decide)) (by rw [List.length_append]; show xs.length + 1 < _; omega))).trans ?_
        exact st_asg ev_int rfl
      · rw [List.length_append, List.length_append] at hy
        have hy : ys.length ≤ xs.length + 1 + 1 + 60 := hy
        rw [e2]
        omega
    · rw [decide_eq_false hs] at t
      obtain ⟨s', q1, ys, hy, m', k', q2⟩ := digits xs (some (.int z)) f k none a (by omega)
      refine ⟨S xs (some (.int z)) m f k none, s', by cases p <;> rfl, (then_nx g1).trans ((then_nx (s1 := S xs (some (.int z)) (some (.int a)) f k none) ((st_if t).trans rfl)).trans q1), ys, ?_, some (.int z), some (.int m'), f, k', q2⟩
      rw [e2]
      omega
  subst e1
  -- the seed
  obtain ⟨d2, e3⟩ : ∃ d2 : Int, rIf (rT (rO gGt (rC gLen (rAc (getSl 0) rA0)) (rI 0))) (rAsg (rO gAdd (rI 1) (rC gAbs (rAc (rO gIx (getSl 0) (rI 0)) rA0))) (putSl 6)) (pure .nx) (S xs1 p1 m1 f1 k1 (some (.int 1))) = some (.ok .nx (S xs1 p1 m1 f1 k1 (some (.int d2)))) := by
    have t := rt_val (ev_gt (s := S xs1 p1 m1 f1 k1 (some (.int 1))) (ev_len (ra_cons (ev_get (k := 0) (d := scriptD (ns.map .int)) rfl) ra_nil) rfl rfl) (ev_int (i := 0)))
    rw [List.length_map] at t
    cases ns with
    | nil => exact ⟨1, (st_if t).trans rfl⟩
    | cons z r =>
      rw [decide_eq_true (by rw [List.length_cons]; omega)] at t
      refine ⟨1 + (if z < 0 then -z else z), (st_if t).trans ?_⟩
      rw [if_pos rfl]
      exact st_asg (ev_add ev_int (ev_abs (ev_ix (ev_get (d := scriptD ((z :: r).map .int)) rfl) (ev_int (i := 0)) rfl (atI_map (f := PyData.int) (l := z :: r) (c := 0) (Nat.succ_pos _))))) rfl
  -- what is mixed behind
  obtain ⟨s2, h2, xs2, hx2, k2, d3, e2⟩ := for_idx (s := S xs1 p1 m1 f1 k1 (some (.int d2))) (g := putSl 5) (fb := thenS (rAsg (rO gMod (rC gInt (rAc (rO gAdd (rO gMul (getSl 6) (rI 48271)) (rI 69621)) rA0)) (rI 2147483647)) (putSl 6))
 (rExpr (rAppend (getSl 1) (rAc (rO gFdiv (getSl 6) (rI 5)) rA0)))) nD 900 (fun i s => ∃ ys : List Int, ys.length ≤ xs1.length + i ∧ ∃ (k : Option D) (d : Int), s = S ys p1 m1 f1 k (some (.int d))) ⟨xs1, Nat.le_refl _, k1, d2, rfl⟩ fun i s hi ⟨ys, hy, k, d, e⟩ => by
    subst e
    refine ⟨S ys p1 m1 f1 (some (nD i)) (some (.int d)), S (ys ++ [((d * 48271 + 69621) % 2147483647) / 5]) p1 m1 f1 (some (nD i)) (some (.int ((d * 48271 + 69621) % 2147483647))), by cases k <;> rfl, ?_, ys ++ [((d * 48271 + 69621) % 2147483647) / 5], by rw [List.length_append]; show ys.length + 1 ≤ _; omega, some (nD i), _, rfl⟩
    refine (then_nx (s1 := S ys p1 m1 f1 (some (nD i)) (some (.int ((d * 48271 + 69621) % 2147483647)))) (st_asg (ev_mod (ev_intOf (ev_add (ev_mulC (ev_get rfl) (by decide)) ev_int)) ev_int (by decide)) rfl)).trans ?_
    exact st_appI (k := 1) (xs := ys) rfl (ev_fdiv (ev_get rfl) ev_int (by decide)) (by omega)
  subst e2
  refine ⟨xs2.reverse, runF_new (n := 7) (b := b_u_law_draws) (es := [scriptD (ns.map .int)]) (s1 := S xs2 p1 m1 f1 k2 (some (.int d3))) ?_⟩
  unfold b_u_law_draws
  let S0 : DS := [some (.dat (scriptD (ns.map .int))), none, none, none, none, none, none]
  refine (then_nx (s := S0) (s1 := S [] none none none none none) (st_asg (rn_lst (es := []) ra_nil (Nat.zero_le _)) rfl)).trans ?_
  refine (then_nx (s1 := S xs1 p1 m1 f1 k1 none) (((it_seq (es := ns.map .int) (ev_get (d := scriptD (ns.map .int)) rfl) rfl).bind).trans h1)).trans ?_
  refine (then_nx (s1 := S xs1 p1 m1 f1 k1 (some (.int 1))) (st_asg ev_int rfl)).trans ?_
  refine (then_nx e3).trans ?_
  refine (then_nx ((it_const (n := 900) (by decide)).bind.trans h2)).trans ?_
  refine st_ret ?_
  show Rn (rRev (getSl 1)) (S xs2 p1 m1 f1 k2 (some (.int d3))) _
  unfold Rn rRev
  rw [(rn_get (k := 1) (sv := .own (.list (xs2.map .int))) rfl).bind]
  unfold gRev
  rw [bind_ok (m := dat _) (a := .list (xs2.map .int)) (s' := S xs2 p1 m1 f1 k2 (some (.int d3))) rfl, List.map_reverse]
  rfl
end Den
/-! PV: steps that change the state; _law_tasks -/
namespace Den
open PySem PyProof.Rows L2 K70
def Rs {α : Type} (f : M α) (s : DS) (r : α) (s' : DS) : Prop := f s = some (.ok r s')
section
variable {s s1 s2 s3 : DS} {fa fb fc : M R} {fr : M (List R)} {i j : Int} {x y : Bool} {z : R}
theorem Rs.bind {α β : Type} {m : M α} {k : α → M β} {a : α} (h : Rs m s a s1) : (m >>= k) s = k a s1 := bind_ok h
theorem Rn.rs {α : Type} {m : M α} {a : α} (h : Rn m s a) : Rs m s a s := h
theorem rs_o {g : R → R → M R} {r r' : R} (h1 : Rs fa s r s1) (h2 : Rs fb s1 r' s2) (h : g r r' s2 = some (.ok z s2)) : Rs (rO g fa fb) s z s2 := by
  unfold Rs rO
  rw [h1.bind, h2.bind, h]
theorem rs_add (h1 : Rs fa s (.dat (.int i)) s1) (h2 : Rs fb s1 (.dat (.int j)) s2) : Rs (rO gAdd fa fb) s (.dat (.int (i + j))) s2 := rs_o h1 h2 rfl
theorem rs_gt (h1 : Rs fa s (.dat (.int i)) s1) (h2 : Rs fb s1 (.dat (.int j)) s2) : Rs (rO gGt fa fb) s (.dat (.bool (decide (j < i)))) s2 := rs_o h1 h2 rfl
theorem rs_T (h : Rs fa s (.dat (.bool x)) s1) : Rs (rT fa) s x s1 := by
  unfold Rs rT
  rw [h.bind]
  rfl
theorem rs_and {c c' : M Bool} (h : Rs c s x s1) (h2 : x = true → Rs c' s1 y s2) (h3 : x = false → s2 = s1) : Rs (andT c c') s (x && y) s2 := by
  unfold Rs andT
  rw [h.bind]
  cases x with
  | false =>
    rw [h3 rfl]
    rfl
  | true => exact h2 rfl
theorem rs_ifE {c : M Bool} (h : Rs c s x s1) (h1 : x = true → Rs fa s1 z s2) (h2 : x = false → Rs fb s1 z s2) : Rs (rIfE c fa fb) s z s2 := by
  unfold Rs rIfE
  rw [h.bind]
  cases x with
  | true => exact h1 rfl
  | false => exact h2 rfl
theorem rs_cons {r : R} {rs : List R} (h1 : Rs fa s r s1) (h2 : Rs fr s1 rs s2) : Rs (rAc fa fr) s (r :: rs) s2 := by
  unfold Rs rAc
  rw [h1.bind, h2.bind]
  rfl
theorem rs_c {g : List R → M R} {rs : List R} (h1 : Rs fr s rs s1) (h : g rs s1 = some (.ok z s1)) : Rs (rC g fr) s z s1 := by
  unfold Rs rC
  rw [h1.bind, h]
theorem rs_tup {es : List D} (h1 : Rs fr s (datsR es) s1) (h : es.length ≤ 16777216) : Rs (rC mkT fr) s (.dat (.tuple es)) s1 := rs_c h1 (by
  unfold mkT lenOk
  rw [run_bind, run_need, if_pos (decide_eq_true (by simpa [datsR] using h))]
  simp only
  rw [bind_ok (frzAll_dats es)]
  rfl)
theorem st_asgS {g : R → M Unit} {r : R} (h : Rs fa s r s1) (hg : g r s1 = some (.ok () s2)) : rAsg fa g s = some (.ok .nx s2) := by
  unfold rAsg
  rw [h.bind, run_bind, hg]
  rfl
/-- a draw -/
theorem rs_take {k : Nat} {sv : SV} {xs : List Int} {b : Int} (hk : s[k]? = some (some sv)) (ho : isOwn sv = true) (hd : sv.d = .list (xs.map .int)) (hb : Ev fb s (.int b)) (h0 : 0 < b) :
    Rs (rC (callD f_u_law_take [true, false]) (rAc (getSl k) (rAc fb rA0))) s (.dat (.int (takeV xs b))) (s.set k (some (setS (.list (xs.dropLast.map .int)) sv))) := by
  have hr : Rn (getSl k) s (.at k) := by
    have q := rn_get hk
    cases sv with
    | dat d => cases ho
    | own d => exact q
    | lent d => exact q
  exact run_lend (pre := []) (post := [.int b]) (d := .list (xs.map .int)) (ra_cons hr (ra_cons hb ra_nil)) rfl hk ho hd (run_take h0)
theorem takeV_bd {xs : List Int} {b : Int} (h : 0 < b) : 0 ≤ takeV xs b ∧ takeV xs b < b := by
  unfold takeV
  split
  · exact ⟨Int.le_refl 0, h⟩
  · exact ⟨Int.emod_nonneg _ (by omega), Int.emod_lt_of_pos _ h⟩
end
/-- what the law draws -/
def TkOk (n : Nat) (i : Nat) (t : Tk) : Prop := (∀ q, t.par = some q → i < q ∧ q < n) ∧ 0 ≤ t.up ∧ t.up ≤ t.fr ∧ 1 ≤ t.fr ∧ t.fr ≤ 15
structure GoodT (ts : List Tk) : Prop where
  len : ts.length ≤ 8
  ok : ∀ i t, ts[i]? = some t → TkOk ts.length i t
theorem st_appD {s s1 : DS} {k : Nat} {fa : M R} {es : List D} {d : D} (hk : s[k]? = some (some (.own (.list es)))) (h : Rs fa s (.dat d) s1) (hk1 : s1[k]? = some (some (.own (.list es)))) (hl : es.length < 16777216) : rExpr (rAppend (getSl k) (rAc fa rA0)) s = some (.ok .nx (s1.set k (some (.own (.list (es ++ [d])))))) := by
  have e1 : rAppend (getSl k) (rAc fa rA0) s = some (.ok (.dat .none) (s1.set k (some (.own (.list (es ++ [d])))))) := by
    unfold rAppend
    rw [bind_ok (rn_get hk)]
    have e : dOf s (.at k) = some (.list es) := by
      unfold dOf
      simp only
      rw [hk]
      rfl
    have ha : Rs (rAc fa rA0) s [.dat d] s1 := rs_cons h (ra_nil (s := s1))
    rw [show getR k (.own (.list es)) = .at k from rfl, bind_ok (m := dat (.at k)) (a := .list es) (s' := s) (by rw [run_dat, e]), bind_ok (m := need (isList (.list es))) (a := ()) (s' := s) rfl, bind_ok ha]
    unfold gAppend
    rw [bind_ok (m := one _) (a := .dat d) (s' := s1) rfl, bind_ok (m := frz _) (a := d) (s' := s1) rfl]
    refine (bind_ok (a := ()) (s' := s1.set k (some (.own (.list (es ++ [d]))))) ?_).trans rfl
    unfold modAt
    simp only
    rw [hk1]
    simp only
    rw [if_pos hl]
  exact st_expr e1
theorem run_law_tasks (xs : List Int) : ∃ (ts : List Tk) (xs' : List Int), GoodT ts ∧ f_u_law_tasks [(true, .list (xs.map .int)), (false, .int 8), (false, .int 15)] = some (.ok (.dat (tksD ts)) [.list (xs'.map .int)]) := by
  obtain ⟨n, hn, hnn⟩ : ∃ n : Nat, takeV xs 9 = (n : Int) ∧ n ≤ 8 := by
    obtain ⟨h1, h2⟩ := takeV_bd (xs := xs) (b := 9) (by decide)
    exact ⟨(takeV xs 9).toNat, by omega, by omega⟩
  let S (xs : List Int) (fnd : List Tk) (a b c : Option D) : DS := [some (.lent (.list (xs.map .int))), some (.dat (.int 8)), some (.dat (.int 15)), some (.dat (nD n)), some (.own (.list (fnd.map tkD))), a.map .dat, b.map .dat, c.map .dat]
  let S0 : DS := [some (.lent (.list (xs.map .int))), some (.dat (.int 8)), some (.dat (.int 15)), none, none, none, none, none]
  have e0 : rPar 3 4 (rAc (rC (callD f_u_law_take [true, false]) (rAc (getSl 0) (rAc (rO gAdd (getSl 1) (rI 1)) rA0))) (rAc (rC mkL rA0) rA0)) S0 = some (.ok .nx (S xs.dropLast [] none none none)) := by
    have t : Rs (rC (callD f_u_law_take [true, false]) (rAc (getSl 0) (rAc (rO gAdd (getSl 1) (rI 1)) rA0))) S0 (.dat (nD n)) (S0.set 0 (some (.lent (.list (xs.dropLast.map .int))))) := by
      have q := rs_take (s := S0) (k := 0) (xs := xs) (b := 8 + 1) (fb := rO gAdd (getSl 1) (rI 1)) rfl rfl rfl (ev_add (ev_get rfl) ev_int) (by decide)
      have e : takeV xs (8 + 1) = (n : Int) := hn
      rw [e] at q
      exact q
    have q : Rs (rAc (rC (callD f_u_law_take [true, false]) (rAc (getSl 0) (rAc (rO gAdd (getSl 1) (rI 1)) rA0))) (rAc (rC mkL rA0) rA0)) S0 [.dat (nD n), .new (.list [])] (S0.set 0 (some (.lent (.list (xs.dropLast.map .int))))) := rs_cons t (ra_cons (rn_lst (es := []) ra_nil (Nat.zero_le _)) ra_nil)
    unfold rPar
    rw [q.bind]
    rfl
  obtain ⟨s', h1, xs', fnd, hl, hok, a, b, c, e⟩ := for_idx (s := S xs.dropLast [] none none none) (g := putSl 5) (fb := thenS (rAsg (rIfE (rT (rO gLt (rO gAdd (getSl 5) (rI 1)) (getSl 3))) (rO gAdd (rO gAdd (getSl 5) (rI 1)) (rC (callD f_u_law_take [true, false]) (rAc (getSl 0) (rAc (rC gMin (rAc (rI 3) (rAc (rO gSub (getSl 3) (getSl 5)) rA0))) rA0)))) (getSl 3)) (putSl 6))
 (thenS (rAsg (rO gAdd (rC (callD f_u_law_take [true, false]) (rAc (getSl 0) (rAc (getSl 2) rA0))) (rI 1)) (putSl 7))
 (rExpr (rAppend (getSl 4) (rAc (rC mkT (rAc (rIfE (andT (rT (rO gLt (getSl 6) (getSl 3))) (rT (rO gGt (rC (callD f_u_law_take [true, false]) (rAc (getSl 0) (rAc (rI 8) rA0))) (rI 0)))) (getSl 6) rN) (rAc (getSl 7) (rAc (rC (callD f_u_law_take [true, false]) (rAc (getSl 0) (rAc (rO gAdd (getSl 7) (rI 1)) rA0))) rA0)))) rA0))))) nD n
    (fun i s => ∃ (xs : List Int) (fnd : List Tk), fnd.length = i ∧ (∀ k t, fnd[k]? = some t → TkOk n k t) ∧ ∃ a b c : Option D, s = S xs fnd a b c) ⟨xs.dropLast, [], rfl, (fun k t h => by simp at h), none, none, none, rfl⟩ fun i s hi ⟨xs, fnd, hl, hok, a, b, c, e⟩ => by
    subst e
    let p : Int := if i + 1 < n then (i : Int) + 1 + takeV xs (min 3 ((n : Int) - i)) else n
    let xs1 : List Int := if i + 1 < n then xs.dropLast else xs
    obtain ⟨q, hq, hiq⟩ : ∃ q : Nat, p = (q : Int) ∧ i < q := by
      by_cases h : i + 1 < n
      · obtain ⟨h1, h2⟩ := takeV_bd (xs := xs) (b := min 3 ((n : Int) - i)) (by omega)
        refine ⟨((i : Int) + 1 + takeV xs (min 3 ((n : Int) - i))).toNat, ?_, by omega⟩
        show (if i + 1 < n then _ else _) = _
        rw [if_pos h]
        omega
      · exact ⟨n, if_neg h, by omega⟩
    have g1 : rAsg (rIfE (rT (rO gLt (rO gAdd (getSl 5) (rI 1)) (getSl 3))) (rO gAdd (rO gAdd (getSl 5) (rI 1)) (rC (callD f_u_law_take [true, false]) (rAc (getSl 0) (rAc (rC gMin (rAc (rI 3) (rAc (rO gSub (getSl 3) (getSl 5)) rA0))) rA0)))) (getSl 3)) (putSl 6) (S xs fnd (some (nD i)) b c) = some (.ok .nx (S xs1 fnd (some (nD i)) (some (.int p)) c)) := by
      have t := rt_val (ev_lt (s := S xs fnd (some (nD i)) b c) (ev_add (ev_get (k := 5) (d := .int i) rfl) (ev_int (i := 1))) (ev_get (k := 3) (d := .int n) rfl))
      refine st_asgS (r := .dat (.int p)) (s1 := S xs1 fnd (some (nD i)) b c) (rs_ifE t.rs (fun h => ?_) (fun h => ?_)) (by cases b <;> rfl)
      · have h : i + 1 < n := by have := of_decide_eq_true h; omega
        have ep : p = (i : Int) + 1 + takeV xs (min 3 ((n : Int) - i)) := if_pos h
        have ex : xs1 = xs.dropLast := if_pos h
        rw [ep, ex]
        exact rs_add (Rn.rs (ev_add (ev_get (d := .int i) rfl) ev_int)) (rs_take (k := 0) (sv := .lent (.list (xs.map .int))) rfl rfl rfl (ev_min2 (ra_cons ev_int (ra_cons (ev_sub (ev_get (d := .int n) rfl) (ev_get (d := .int i) rfl)) ra_nil))) (by omega))
      · have h : ¬ i + 1 < n := by have := of_decide_eq_false h; omega
        have ep : p = n := if_neg h
        have ex : xs1 = xs := if_neg h
        rw [ep, ex]
        exact Rn.rs (ev_get rfl)
    let f : Int := takeV xs1 15 + 1
    have hf := takeV_bd (xs := xs1) (b := 15) (by decide)
    have g2 : rAsg (rO gAdd (rC (callD f_u_law_take [true, false]) (rAc (getSl 0) (rAc (getSl 2) rA0))) (rI 1)) (putSl 7) (S xs1 fnd (some (nD i)) (some (.int p)) c) = some (.ok .nx (S xs1.dropLast fnd (some (nD i)) (some (.int p)) (some (.int f)))) :=
      st_asgS (s1 := S xs1.dropLast fnd (some (nD i)) (some (.int p)) c) (rs_add (rs_take (k := 0) (sv := .lent (.list (xs1.map .int))) rfl rfl rfl (ev_get rfl) (by decide)) (Rn.rs ev_int)) (by cases c <;> rfl)
    let xs2 : List Int := xs1.dropLast
    let xs3 : List Int := if p < n then xs2.dropLast else xs2
    let par : Option Nat := if p < n ∧ 0 < takeV xs2 8 then some q else none
    let u : Int := takeV xs3 (f + 1)
    have hu := takeV_bd (xs := xs3) (b := f + 1) (by omega)
    have g3 : Rs (rC mkT (rAc (rIfE (andT (rT (rO gLt (getSl 6) (getSl 3))) (rT (rO gGt (rC (callD f_u_law_take [true, false]) (rAc (getSl 0) (rAc (rI 8) rA0))) (rI 0)))) (getSl 6) rN) (rAc (getSl 7) (rAc (rC (callD f_u_law_take [true, false]) (rAc (getSl 0) (rAc (rO gAdd (getSl 7) (rI 1)) rA0))) rA0)))) (S xs2 fnd (some (nD i)) (some (.int p)) (some (.int f))) (.dat (tkD ⟨par, f, u⟩)) (S xs3.dropLast fnd (some (nD i)) (some (.int p)) (some (.int f))) := by
      refine rs_tup (es := [parD par, .int f, .int u]) (rs_cons (s1 := S xs3 fnd (some (nD i)) (some (.int p)) (some (.int f))) ?_ (rs_cons (Rn.rs (ev_get rfl)) (rs_cons (rs_take (k := 0) (sv := .lent (.list (xs3.map .int))) rfl rfl rfl (ev_add (ev_get rfl) ev_int) (by omega)) (ra_nil)))) (show 3 ≤ 16777216 by decide)
      have t := rt_val (ev_lt (s := S xs2 fnd (some (nD i)) (some (.int p)) (some (.int f))) (ev_get (k := 6) (d := .int p) rfl) (ev_get (k := 3) (d := .int n) rfl))
      refine rs_ifE (x := decide (p < n) && decide (0 < takeV xs2 8)) (s1 := S xs3 fnd (some (nD i)) (some (.int p)) (some (.int f))) (rs_and t.rs (fun h => ?_) (fun h => ?_)) (fun h => ?_) (fun h => ?_)
      · have h := of_decide_eq_true h
        have ex : xs3 = xs2.dropLast := if_pos h
        rw [ex]
        exact rs_T (rs_gt (rs_take (k := 0) (sv := .lent (.list (xs2.map .int))) rfl rfl rfl ev_int (by decide)) (Rn.rs ev_int))
      · have h := of_decide_eq_false h
        have ex : xs3 = xs2 := if_neg h
        rw [ex]
      · have h := Bool.and_eq_true_iff.mp h
        have ep : par = some q := if_pos ⟨of_decide_eq_true h.1, of_decide_eq_true h.2⟩
        rw [ep]
        show Rs (getSl 6) _ (.dat (.int (q : Int))) _
        rw [← hq]
        exact Rn.rs (ev_get rfl)
      · have ep : par = none := if_neg fun z => by rw [decide_eq_true z.1, decide_eq_true z.2] at h; cases h
        rw [ep]
        exact Rn.rs ev_none
    have g4 : rExpr (rAppend (getSl 4) (rAc (rC mkT (rAc (rIfE (andT (rT (rO gLt (getSl 6) (getSl 3))) (rT (rO gGt (rC (callD f_u_law_take [true, false]) (rAc (getSl 0) (rAc (rI 8) rA0))) (rI 0)))) (getSl 6) rN) (rAc (getSl 7) (rAc (rC (callD f_u_law_take [true, false]) (rAc (getSl 0) (rAc (rO gAdd (getSl 7) (rI 1)) rA0))) rA0)))) rA0)) (S xs2 fnd (some (nD i)) (some (.int p)) (some (.int f))) = some (.ok .nx (S xs3.dropLast (fnd ++ [⟨par, f, u⟩]) (some (nD i)) (some (.int p)) (some (.int f)))) := by
      rw [st_appD (k := 4) (es := fnd.map tkD) rfl g3 rfl (by rw [List.length_map]; omega)]
      show some (Res.ok Fl.nx [_, _, _, _, some (SV.own (.list (fnd.map tkD ++ [tkD ⟨par, f, u⟩]))), _, _, _]) = _
      rw [show fnd.map tkD ++ [tkD ⟨par, f, u⟩] = (fnd ++ [(⟨par, f, u⟩ : Tk)]).map tkD by rw [List.map_append]; rfl]
    refine ⟨S xs fnd (some (nD i)) b c, S xs3.dropLast (fnd ++ [⟨par, f, u⟩]) (some (nD i)) (some (.int p)) (some (.int f)), by cases a <;> rfl, (then_nx g1).trans ((then_nx g2).trans g4), xs3.dropLast, fnd ++ [⟨par, f, u⟩], by rw [List.length_append, hl]; rfl, fun k t h => ?_, some (nD i), some (.int p), some (.int f), rfl⟩
    rw [List.getElem?_append] at h
    split at h
    · exact hok k t h
    · rename_i hk
      have hk2 : k = i := by
        have h3 := (List.getElem?_eq_some_iff.mp h).1
        rw [List.length_singleton] at h3
        omega
      subst hk2
      rw [hl, Nat.sub_self] at h
      have h : some (⟨par, f, u⟩ : Tk) = some t := h
      cases h
      refine ⟨fun q' hq' => ?_, hu.1, by show u ≤ f; omega, by show 1 ≤ f; omega, by show f ≤ 15; omega⟩
      have hq' : (if p < n ∧ 0 < takeV xs2 8 then some q else none) = some q' := hq'
      split at hq'
      · cases hq'
        exact ⟨hiq, by omega⟩
      · cases hq'
  refine ⟨fnd, xs', ⟨by omega, by rw [hl]; exact hok⟩, ?_⟩
  have q : b_u_law_tasks S0 = some (.ok (.rt (.dat (tksD fnd))) s') := by
    unfold b_u_law_tasks
    have it : Rn (rGo rng1 (rAc (getSl 3) rA0)) (S xs.dropLast [] none none none) ((List.range n).map nD) := by
      have q := it_range1 (s := S xs.dropLast [] none none none) (n := n) (ra_cons (ev_get (k := 3) (d := nD n) rfl) ra_nil) (by omega)
      rwa [upFrom_nat] at q
    refine (then_nx e0).trans ((then_nx (it.bind.trans h1)).trans ?_)
    subst e
    exact st_ret (ev_tupOf (ra_cons (rn_get (sv := .own (.list (fnd.map tkD))) rfl) ra_nil) rfl)
  unfold f_u_law_tasks runF
  rw [show ds0 8 [(true, .list (xs.map .int)), (false, .int 8), (false, .int 15)] = S0 from rfl, q]
  subst e
  rfl
end Den
/-! PW: slices; _law_joined -/
namespace Den
open PySem PyProof.Rows L2 K70
theorem cut_to {α : Type} {xs : List α} {k : Nat} (h : k ≤ xs.length) : cutD xs none (some (k : Int)) = xs.take k := by
  have e1 : HT.sIx xs.length 0 none = 0 := by unfold HT.sIx; rfl
  have e2 : HT.sIx xs.length xs.length (some (k : Int)) = k := by
    unfold HT.sIx
    simp only
    split <;> omega
  unfold cutD
  rw [e1, e2, List.drop_zero, Nat.sub_zero]
theorem cut_from {α : Type} {xs : List α} {k : Nat} (h : k ≤ xs.length) : cutD xs (some (k : Int)) none = xs.drop k := by
  have e1 : HT.sIx xs.length xs.length none = xs.length := by unfold HT.sIx; rfl
  have e2 : HT.sIx xs.length 0 (some (k : Int)) = k := by
    unfold HT.sIx
    simp only
    split <;> omega
  unfold cutD
  rw [e1, e2]
  exact List.take_of_length_le (by rw [List.length_drop]; omega)
section
variable {s : DS} {fa fb : M R} {es : List D} {k : Nat}
theorem ev_cutTo (h1 : Ev fa s (.tuple es)) (h2 : Ev fb s (nD k)) (h : k ≤ es.length) : Ev (rSlice fa rOn (rOs fb)) s (.tuple (es.take k)) := by
  unfold Ev Rn rSlice
  rw [h1.bind, bind_ok (m := rOn) (a := none) (s' := s) rfl, bind_ok (m := rOs fb) (a := some (k : Int)) (s' := s) (by unfold rOs; rw [h2.bind]; rfl)]
  unfold gSl
  rw [bind_ok (m := dat _) (a := .tuple es) (s' := s) rfl]
  simp only
  rw [cut_to h]
  rfl
theorem ev_cutFrom (h1 : Ev fa s (.tuple es)) (h2 : Ev fb s (nD k)) (h : k ≤ es.length) : Ev (rSlice fa (rOs fb) rOn) s (.tuple (es.drop k)) := by
  unfold Ev Rn rSlice
  rw [h1.bind, bind_ok (m := rOs fb) (a := some (k : Int)) (s' := s) (by unfold rOs; rw [h2.bind]; rfl), bind_ok (m := rOn) (a := none) (s' := s) rfl]
  unfold gSl
  rw [bind_ok (m := dat _) (a := .tuple es) (s' := s) rfl]
  simp only
  rw [cut_from h]
  rfl
end
def fct : Nat → Nat
  | 0 => 1
  | n + 1 => fct n * (n + 1)
def joinTo (pre : List Nat) : List (List Nat) := pre.foldl (fun found x => found.flatMap (inserts x)) [[]]
theorem inserts_len (x : Nat) (l : List Nat) : (inserts x l).length = l.length + 1 := by
  unfold inserts
  rw [List.length_map, List.length_range]
theorem inserts_all (x : Nat) (l : List Nat) : ∀ q ∈ inserts x l, q.length = l.length + 1 := fun q hq => by
  obtain ⟨a, b, rfl, rfl⟩ := mem_inserts.mp hq
  simp only [List.length_append, List.length_cons]
  omega
theorem flat_len (x d : Nat) : ∀ F : List (List Nat), (∀ q ∈ F, q.length = d) → (F.flatMap (inserts x)).length = F.length * (d + 1)
  | [], _ => by simp
  | l :: F, h => by
    rw [List.flatMap_cons, List.length_append, inserts_len, h l List.mem_cons_self, flat_len x d F fun q hq => h q (List.mem_cons_of_mem _ hq), List.length_cons, Nat.add_mul, Nat.one_mul]
    omega
theorem flat_all (x d : Nat) (F : List (List Nat)) (h : ∀ q ∈ F, q.length = d) : ∀ q ∈ F.flatMap (inserts x), q.length = d + 1 := fun q hq => by
  obtain ⟨l, hl, hq⟩ := List.mem_flatMap.mp hq
  rw [inserts_all x l q hq, h l hl]
theorem joinTo_snoc (pre : List Nat) (x : Nat) : joinTo (pre ++ [x]) = (joinTo pre).flatMap (inserts x) := by
  unfold joinTo
  rw [List.foldl_append]
  rfl
theorem joinTo_spec : ∀ pre : List Nat, (joinTo pre.reverse).length = fct pre.length ∧ ∀ q ∈ joinTo pre.reverse, q.length = pre.length
  | [] => ⟨rfl, fun q hq => by
    have : q ∈ [[]] := hq
    simp at this
    rw [this]⟩
  | x :: pre => by
    obtain ⟨h1, h2⟩ := joinTo_spec pre
    rw [List.reverse_cons, joinTo_snoc]
    exact ⟨by rw [flat_len x pre.length _ h2, h1]; rfl, flat_all x _ _ h2⟩
theorem joinTo_len (pre : List Nat) : (joinTo pre).length = fct pre.length := by
  have := (joinTo_spec pre.reverse).1
  rwa [List.reverse_reverse, List.length_reverse] at this
theorem joinTo_all (pre : List Nat) : ∀ q ∈ joinTo pre, q.length = pre.length := by
  have := (joinTo_spec pre.reverse).2
  rwa [List.reverse_reverse, List.length_reverse] at this
theorem fct_le : ∀ n, n ≤ 8 → fct n ≤ 40320 := by
  intro n hn
  match n, hn with
  | 0, _ => decide
  | 1, _ => decide
  | 2, _ => decide
  | 3, _ => decide
  | 4, _ => decide
  | 5, _ => decide
  | 6, _ => decide
  | 7, _ => decide
  | 8, _ => decide
theorem run_law_joined (rows : List Nat) (hr : rows.length ≤ 8) : f_u_law_joined [(false, .list (rows.map nD))] = some (.ok (.dat (.list ((joined rows).map natsD))) []) := by
  let S (F : List (List Nat)) (a : Option D) (l : Option SV) (b c : Option D) : DS := [some (.dat (.list (rows.map nD))), some (.dat (.list (F.map natsD))), a.map .dat, l, b.map .dat, c.map .dat]
  let O (L : List (List Nat)) : Option SV := some (.own (.list (L.map natsD)))
  -- one row into one order
  have spots : ∀ (F : List (List Nat)) (x : Nat) (l : List Nat) (L : List (List Nat)) (c : Option D), l.length ≤ 100 → L.length ≤ 1000000 → ∃ s', rFor (rGo rng1 (rAc (rO gAdd (rC gLen (rAc (getSl 4) rA0)) (rI 1)) rA0)) (putSl 5) (rExpr (rAppend (getSl 3) (rAc (rO gAdd (rO gAdd (rSlice (getSl 4) rOn (rOs (getSl 5))) (rC mkT (rAc (getSl 2) rA0))) (rSlice (getSl 4) (rOs (getSl 5)) rOn)) rA0))) (S F (some (nD x)) (O L) (some (natsD l)) c) = some (.ok .nx s') ∧ ∃ c', s' = S F (some (nD x)) (O (L ++ inserts x l)) (some (natsD l)) c' := by
    intro F x l L c hl hL
    obtain ⟨s', h1, c', h2⟩ := for_idx (s := S F (some (nD x)) (O L) (some (natsD l)) c) (g := putSl 5) (fb := rExpr (rAppend (getSl 3) (rAc (rO gAdd (rO gAdd (rSlice (getSl 4) rOn (rOs (getSl 5))) (rC mkT (rAc (getSl 2) rA0))) (rSlice (getSl 4) (rOs (getSl 5)) rOn)) rA0))) nD (l.length + 1)
      (fun i s => ∃ c', s = S F (some (nD x)) (O (L ++ (List.range i).map fun k => l.take k ++ x :: l.drop k)) (some (natsD l)) c') ⟨c, by rw [List.range_zero, List.map_nil, List.append_nil]⟩ fun i s hi ⟨c', e⟩ => by
        subst e
        let L1 := L ++ (List.range i).map fun k => l.take k ++ x :: l.drop k
        have hL1 : L1.length ≤ 1000101 := by
          show (L ++ (List.range i).map fun k => l.take k ++ x :: l.drop k).length ≤ _
          rw [List.length_append, List.length_map, List.length_range]
          omega
        refine ⟨S F (some (nD x)) (O L1) (some (natsD l)) (some (nD i)), S F (some (nD x)) (O (L1 ++ [l.take i ++ x :: l.drop i])) (some (natsD l)) (some (nD i)), by cases c' <;> rfl, ?_, some (nD i), ?_⟩
        · have t1 : (l.map nD).take i = (l.take i).map nD := (List.map_take ..).symm
          have t2 : (l.map nD).drop i = (l.drop i).map nD := (List.map_drop ..).symm
          have c1 := ev_cutTo (s := S F (some (nD x)) (O L1) (some (natsD l)) (some (nD i))) (fa := getSl 4) (fb := getSl 5) (es := l.map nD) (k := i) (ev_get rfl) (ev_get rfl) (by rw [List.length_map]; omega)
          have c2 := ev_cutFrom (s := S F (some (nD x)) (O L1) (some (natsD l)) (some (nD i))) (fa := getSl 4) (fb := getSl 5) (es := l.map nD) (k := i) (ev_get rfl) (ev_get rfl) (by rw [List.length_map]; omega)
          rw [t1] at c1
          rw [t2] at c2
          have c3 := ev_addT (ev_addT c1 (ev_tup (es := [nD x]) (ra_cons (ev_get (k := 2) rfl) ra_nil) (show 1 ≤ 16777216 by decide)) (by rw [List.length_map, List.length_take]; show _ + 1 ≤ _; omega)) c2 (by rw [List.length_append, List.length_map, List.length_map, List.length_take, List.length_drop]; show _ + 1 + _ ≤ _; omega)
          have e3 : (l.take i).map nD ++ [nD x] ++ (l.drop i).map nD = (l.take i ++ x :: l.drop i).map nD := by
            rw [List.map_append, List.append_assoc]
            rfl
          rw [e3] at c3
          rw [st_app (k := 3) (es := L1.map natsD) (d := natsD (l.take i ++ x :: l.drop i)) rfl c3 (by rw [List.length_map]; omega)]
          show some (Res.ok Fl.nx [_, _, _, some (SV.own (.list (L1.map natsD ++ [natsD (l.take i ++ x :: l.drop i)]))), _, _]) = _
          rw [show L1.map natsD ++ [natsD (l.take i ++ x :: l.drop i)] = (L1 ++ [l.take i ++ x :: l.drop i]).map natsD from (List.map_append (f := natsD) (l₁ := L1) (l₂ := [l.take i ++ x :: l.drop i])).symm]
        · rw [List.range_succ, List.map_append]
          show S _ _ (O (L ++ _ ++ [_])) _ _ = _
          rw [List.append_assoc]
          rfl
    refine ⟨s', ?_, c', h2⟩
    have it : Rn (rGo rng1 (rAc (rO gAdd (rC gLen (rAc (getSl 4) rA0)) (rI 1)) rA0)) (S F (some (nD x)) (O L) (some (natsD l)) c) ((List.range (l.length + 1)).map nD) := by
      have e := ev_len (s := S F (some (nD x)) (O L) (some (natsD l)) c) (es := l.map nD) (ra_cons (ev_get (k := 4) (d := natsD l) rfl) ra_nil) rfl rfl
      rw [List.length_map] at e
      have q := it_range1 (n := l.length + 1) (ra_cons (ev_add e (ev_int (i := 1))) ra_nil) (by omega)
      rwa [upFrom_nat] at q
    exact (it.bind).trans h1
  obtain ⟨s', h1, a, b, c, l, h2⟩ := for_pre (s := S [[]] none none none none) (g := putSl 2) (fb := thenS (rAsg (rC mkL rA0) (putSl 3))
 (thenS (rFor (rItems (getSl 1)) (putSl 4)
 (rFor (rGo rng1 (rAc (rO gAdd (rC gLen (rAc (getSl 4) rA0)) (rI 1)) rA0)) (putSl 5)
 (rExpr (rAppend (getSl 3) (rAc (rO gAdd (rO gAdd (rSlice (getSl 4) rOn (rOs (getSl 5))) (rC mkT (rAc (getSl 2) rA0))) (rSlice (getSl 4) (rOs (getSl 5)) rOn)) rA0)))))
 (rAsg (getSl 3) (putSl 1)))) nD rows (fun pre s => ∃ a b c l : Option D, s = S (joinTo pre) a (l.map .dat) b c) ⟨none, none, none, none, rfl⟩ fun pre x post s e ⟨a, b, c, l, es⟩ => by
    subst es
    have hpl : pre.length ≤ 8 := by
      rw [e, List.length_append, List.length_cons] at hr
      omega
    have hF := joinTo_all pre
    have hFl := joinTo_len pre
    have hf := fct_le pre.length hpl
    obtain ⟨s', h1, b', c', h2⟩ := for_pre (s := S (joinTo pre) (some (nD x)) (O []) b c) (g := putSl 4) (fb := rFor (rGo rng1 (rAc (rO gAdd (rC gLen (rAc (getSl 4) rA0)) (rI 1)) rA0)) (putSl 5)
 (rExpr (rAppend (getSl 3) (rAc (rO gAdd (rO gAdd (rSlice (getSl 4) rOn (rOs (getSl 5))) (rC mkT (rAc (getSl 2) rA0))) (rSlice (getSl 4) (rOs (getSl 5)) rOn)) rA0)))) natsD (joinTo pre) (fun done s => ∃ b c, s = S (joinTo pre) (some (nD x)) (O (done.flatMap (inserts x))) b c) ⟨b, c, rfl⟩ fun done l rest s e2 ⟨b, c, es⟩ => by
      subst es
      have hd : (done.flatMap (inserts x)).length ≤ 1000000 := by
        rw [flat_len x pre.length done fun q hq => hF q (by rw [e2]; exact List.mem_append_left _ hq)]
        have h1 : done.length ≤ 40320 := by
          have := congrArg List.length e2
          rw [List.length_append] at this
          omega
        have h2 : done.length * (pre.length + 1) ≤ 40320 * 9 := Nat.mul_le_mul h1 (by omega)
        omega
      have hl : l.length ≤ 100 := by
        rw [hF l (by rw [e2]; exact List.mem_append_right _ List.mem_cons_self)]
        omega
      obtain ⟨s', q1, c', q2⟩ := spots (joinTo pre) x l (done.flatMap (inserts x)) c hl hd
      refine ⟨S (joinTo pre) (some (nD x)) (O (done.flatMap (inserts x))) (some (natsD l)) c, s', by cases b <;> rfl, q1, some (natsD l), c', ?_⟩
      rw [q2, List.flatMap_append, List.flatMap_cons, List.flatMap_nil, List.append_nil]
    subst h2
    refine ⟨S (joinTo pre) (some (nD x)) (l.map .dat) b c, S (joinTo (pre ++ [x])) (some (nD x)) (some (.dat (.list (((joinTo pre).flatMap (inserts x)).map natsD)))) b' c', by cases a <;> rfl, ?_, some (nD x), b', c', some (.list (((joinTo pre).flatMap (inserts x)).map natsD)), rfl⟩
    refine (then_nx (s1 := S (joinTo pre) (some (nD x)) (O []) b c) (st_asg (rn_lst (es := []) ra_nil (Nat.zero_le _)) (by cases l <;> rfl))).trans ?_
    refine (then_nx (((it_seq (d := .list ((joinTo pre).map natsD)) (ev_get rfl) rfl).bind).trans h1)).trans ?_
    refine st_asg (rn_get (k := 3) (sv := .own (.list (((joinTo pre).flatMap (inserts x)).map natsD))) rfl) ?_
    rw [joinTo_snoc]
    rfl
  subst h2
  refine runF_dat (n := 6) (b := b_u_law_joined) (es := [.list (rows.map nD)]) (s1 := S (joinTo rows) a (l.map .dat) b c) ?_
  unfold b_u_law_joined
  let S0 : DS := [some (.dat (.list (rows.map nD))), none, none, none, none, none]
  refine (then_nx (s := S0) (s1 := S [[]] none none none none) (st_setN (rn_lst (es := [.tuple []]) (ra_cons (ev_tup (es := []) ra_nil (Nat.zero_le _)) ra_nil) (show 1 ≤ 16777216 by decide)) rfl)).trans ?_
  refine (then_nx (((it_seq (d := .list (rows.map nD)) (ev_get rfl) rfl).bind).trans h1)).trans ?_
  exact st_ret (ev_get rfl)
end Den
/-! PX: _law_least, _law_some -/
namespace Den
open PySem PyProof.Rows L2 K70
section
variable {s : DS} {fa fb : M R} {r : R} {d : D}
theorem ev_kidsR {ts : List Tk} {i : Nat} (h1 : Rn fa s r) (hd : dOf s r = some d) (hs : seqOf d = some (belowL ts)) (h2 : Ev fb s (nD i)) (h : i < ts.length) : Ev (rO gIx fa fb) s (natsD (kids ts i)) :=
  rn_ix h1 h2 hd rfl hs (atI_nat (by unfold belowL; rw [List.getElem?_map, List.getElem?_range h]; rfl))
theorem ev_atR {bs : List Int} {c : Nat} (h1 : Rn fa s r) (hd : dOf s r = some d) (hs : seqOf d = some (bs.map .int)) (h2 : Ev fb s (nD c)) (h : c < bs.length) : Ev (rO gIx fa fb) s (.int (intAt bs c)) := by
  have e : intAt bs c = bs[c] := by
    unfold intAt
    rw [List.getElem?_eq_getElem h]
    rfl
  rw [e]
  exact rn_ix h1 h2 hd rfl hs (atI_map h)
theorem rn_listA {es : List D} {fr : M (List R)} (h1 : Rn fr s [r]) (hd : dOf s r = some d) (hs : seqOf d = some es) : Rn (rC gListA fr) s (.new (.list es)) := rn_c h1 (by
  unfold gListA
  rw [bind_ok (m := one _) (a := r) (s' := s) rfl, bind_ok (m := dat r) (a := d) (s' := s) (by rw [run_dat, hd]), hs]
  rfl)
end
theorem rn_callP {s : DS} {f : FD} {ms : List Bool} {fr : M (List R)} {rs : List R} {es : List D} {rr : RR} {outs : List D} (h1 : Rn fr s rs) (hp : prep ms rs s = some (.ok (datsR es) s)) (h : f (es.map fun d => (false, d)) = some (.ok rr outs)) : Rn (rC (callD f ms) fr) s (resR rr) := rn_c h1 (by
  unfold callD
  refine (bind_ok hp).trans ?_
  rw [argsOf_dats]
  simp only
  rw [lentSlots_dats, if_pos List.nodup_nil, h]
  simp only
  rw [updF_none _ _ _ (nwOf_dats es outs)])
def optD : Option Int → D
  | none => .none
  | some b => .int b
theorem isNone_optD (o : Option Int) : isNone (optD o) = o.isNone := by cases o <;> rfl
theorem bestOf_snoc (cost : List Nat → Int) (pre : List (List Nat)) (q : List Nat) : bestOf cost (pre ++ [q]) = some (match bestOf cost pre with | none => cost q | some b => min b (cost q)) := by
  unfold bestOf
  rw [List.foldl_append]
  rfl
theorem joined_eq (rows : List Nat) : joined rows = joinTo rows := rfl
/-- updates are no less than 0 -/
def UpOk (ts : List Tk) : Prop := ∀ c, 0 ≤ upOf ts c
theorem kids_nodup (ts : List Tk) (i : Nat) : (kids ts i).Nodup := (List.nodup_range).filter _
theorem run_law_least {ts : List Tk} (hn : ts.length ≤ 16777215) (hk : KidsLess ts) (hu : UpOk ts) (hl : ∀ i, (kids ts i).length ≤ 8) : f_u_law_least [(false, tksD ts)] = some (.ok (.own (.list ((pks ts).map .int))) []) := by
  let S (ps : List Int) (a b c h m x : Option D) : DS := [some (.dat (tksD ts)), some (.own (.list (belowL ts))), some (.own (.list (ps.map .int))), a.map .dat, b.map .dat, c.map .dat, h.map .dat, m.map .dat, x.map .dat]
  have orders : ∀ (ps : List Int) (i : Nat) (c h m x : Option D), i < ts.length → ps.length = i → ∃ s', (rFor (rItems (rC (callD f_u_law_joined [false]) (rAc (rC gListA (rAc (rO gIx (getSl 1) (getSl 3)) rA0)) rA0))) (putSl 5)
 (thenS (tupN 2 (rAc (rI 0) (rAc (rI 0) rA0)) (gsCons (putSl 6) (gsCons (putSl 7) gsNil)))
 (thenS (rFor (rItems (getSl 5)) (putSl 8)
 (rPar 7 6 (rAc (rC gMax (rAc (getSl 7) (rAc (rO gAdd (getSl 6) (rO gIx (getSl 2) (getSl 8))) rA0))) (rAc (rO gAdd (getSl 6) (rO gIx (rO gIx (getSl 0) (getSl 8)) (rI 2))) rA0))))
 (thenS (rAsg (rC gMax (rAc (getSl 7) (rAc (rO gAdd (getSl 6) (rO gIx (rO gIx (getSl 0) (getSl 3)) (rI 1))) rA0))) (putSl 7))
 (rAsg (rIfE (rT (rO (gIsN false) (getSl 4) rN)) (getSl 7) (rC gMin (rAc (getSl 4) (rAc (getSl 7) rA0)))) (putSl 4)))))) (S ps (some (nD i)) (some .none) c h m x) = some (.ok .nx s') ∧ ∃ c h m x, s' = S ps (some (nD i)) (some (optD (bestOf (costOf (upOf ts) (intAt ps) (frOf ts i)) (joined (kids ts i))))) c h m x := by
    intro ps i c h m x hi hps
    have hkl : ∀ c ∈ kids ts i, c < ps.length := fun c hc => by
      rw [hps]
      exact hk c i (mem_kids hc)
    obtain ⟨s', h1, h2⟩ := for_pre (s := S ps (some (nD i)) (some .none) c h m x) (g := putSl 5) (fb := (thenS (tupN 2 (rAc (rI 0) (rAc (rI 0) rA0)) (gsCons (putSl 6) (gsCons (putSl 7) gsNil)))
 (thenS (rFor (rItems (getSl 5)) (putSl 8)
 (rPar 7 6 (rAc (rC gMax (rAc (getSl 7) (rAc (rO gAdd (getSl 6) (rO gIx (getSl 2) (getSl 8))) rA0))) (rAc (rO gAdd (getSl 6) (rO gIx (rO gIx (getSl 0) (getSl 8)) (rI 2))) rA0))))
 (thenS (rAsg (rC gMax (rAc (getSl 7) (rAc (rO gAdd (getSl 6) (rO gIx (rO gIx (getSl 0) (getSl 3)) (rI 1))) rA0))) (putSl 7))
 (rAsg (rIfE (rT (rO (gIsN false) (getSl 4) rN)) (getSl 7) (rC gMin (rAc (getSl 4) (rAc (getSl 7) rA0)))) (putSl 4)))))) natsD (joined (kids ts i)) (fun pre s => ∃ c h m x, s = S ps (some (nD i)) (some (optD (bestOf (costOf (upOf ts) (intAt ps) (frOf ts i)) pre))) c h m x) ⟨c, h, m, x, rfl⟩ fun pre q post s e ⟨c, h, m, x, es⟩ => by
      subst es
      have hq : ∀ c ∈ q, c ∈ kids ts i := fun c hc => ((mem_joined (kids ts i) q).mp (by rw [e]; exact List.mem_append_right _ List.mem_cons_self)).mem_iff.mp hc
      let B : Option Int := bestOf (costOf (upOf ts) (intAt ps) (frOf ts i)) pre
      let U (y : Int × Int) (x : Option D) : DS := S ps (some (nD i)) (some (optD B)) (some (natsD q)) (some (.int y.1)) (some (.int y.2)) x
      obtain ⟨s', e1, o, e2⟩ := for_rel (g := putSl 8) (fb := rPar 7 6 (rAc (rC gMax (rAc (getSl 7) (rAc (rO gAdd (getSl 6) (rO gIx (getSl 2) (getSl 8))) rA0))) (rAc (rO gAdd (getSl 6) (rO gIx (rO gIx (getSl 0) (getSl 8)) (rI 2))) rA0))) nD (mostStep (upOf ts) (intAt ps)) (fun y s => ∃ o, s = U y o) q (0, 0) (U (0, 0) x) ⟨x, rfl⟩ fun c hc y s ⟨o, hs⟩ => by
        subst hs
        have hc := hq c hc
        refine ⟨U y (some (nD c)), U (mostStep (upOf ts) (intAt ps) y c) (some (nD c)), by cases o <;> rfl, ?_, some (nD c), rfl⟩
        have q := ra_cons (s := U y (some (nD c))) (ev_max2 (i := y.2) (j := y.1 + intAt ps c) (ra_cons (ev_get (k := 7) rfl) (ra_cons (ev_add (ev_get (k := 6) rfl) (ev_atR (fb := getSl 8) (rn_get (k := 2) (sv := .own (.list (ps.map .int))) rfl) rfl rfl (ev_get rfl) (hkl c hc))) ra_nil))) (ra_cons (ev_add (ev_get (k := 6) (d := .int y.1) rfl) (ev_up (ts := ts) (c := c) (fa := getSl 0) (fb := getSl 8) (ev_get rfl) (ev_get rfl) (kids_lt hc))) ra_nil)
        unfold rPar
        rw [q.bind]
        rfl
      rw [mostStep_go] at e2
      subst e2
      let hs : Int := 0 + sumOf (upOf ts) q
      let ms : Int := mostFrom (upOf ts) (intAt ps) 0 0 q
      let K : Int := costOf (upOf ts) (intAt ps) (frOf ts i) q
      have eK : max ms (hs + frOf ts i) = K := by
        show max (mostFrom (upOf ts) (intAt ps) 0 0 q) (0 + sumOf (upOf ts) q + frOf ts i) = max (mostFrom (upOf ts) (intAt ps) 0 0 q) (sumOf (upOf ts) q + frOf ts i)
        rw [Int.zero_add]
      have g3 : rAsg (rC gMax (rAc (getSl 7) (rAc (rO gAdd (getSl 6) (rO gIx (rO gIx (getSl 0) (getSl 3)) (rI 1))) rA0))) (putSl 7) (U (hs, ms) o) = some (.ok .nx (U (hs, K) o)) := by
        refine st_asg (r := .dat (.int K)) ?_ rfl
        rw [← eK]
        exact ev_max2 (ra_cons (ev_get (k := 7) rfl) (ra_cons (ev_add (ev_get (k := 6) rfl) (ev_fr (ts := ts) (c := i) (ev_get rfl) (ev_get rfl) hi)) ra_nil))
      have g4 : rAsg (rIfE (rT (rO (gIsN false) (getSl 4) rN)) (getSl 7) (rC gMin (rAc (getSl 4) (rAc (getSl 7) rA0)))) (putSl 4) (U (hs, K) o) = some (.ok .nx (S ps (some (nD i)) (some (optD (bestOf (costOf (upOf ts) (intAt ps) (frOf ts i)) (pre ++ [q])))) (some (natsD q)) (some (.int hs)) (some (.int K)) o)) := by
        have eB : bestOf (costOf (upOf ts) (intAt ps) (frOf ts i)) (pre ++ [q]) = some (match B with | none => K | some b => min b K) := bestOf_snoc _ _ _
        have t := rt_val (ev_isN (s := U (hs, K) o) (ev_get (k := 4) (d := optD B) rfl))
        rw [isNone_optD] at t
        refine st_asg (r := .dat (optD (bestOf (costOf (upOf ts) (intAt ps) (frOf ts i)) (pre ++ [q])))) (rn_ifE t (fun h => ?_) (fun h => ?_)) rfl
        · rw [eB]
          cases hB : B with
          | none => exact ev_get rfl
          | some b => rw [hB] at h; cases h
        · rw [eB]
          cases hB : B with
          | none => rw [hB] at h; cases h
          | some b =>
            exact ev_min2 (ra_cons (ev_get (k := 4) (by show some (some (SV.dat (optD B))) = _; rw [hB]; rfl)) (ra_cons (ev_get (k := 7) rfl) ra_nil))
      refine ⟨S ps (some (nD i)) (some (optD B)) (some (natsD q)) h m x, _, by cases c <;> rfl, (then_nx (s1 := U (0, 0) x) (by cases h <;> cases m <;> rfl)).trans ((then_nx (((it_seq (d := natsD q) (ev_get rfl) rfl).bind).trans e1)).trans ((then_nx g3).trans g4)), some (natsD q), some (.int hs), some (.int K), o, rfl⟩
    refine ⟨s', ?_, h2⟩
    have it : Rn (rItems (rC (callD f_u_law_joined [false]) (rAc (rC gListA (rAc (rO gIx (getSl 1) (getSl 3)) rA0)) rA0))) (S ps (some (nD i)) (some .none) c h m x) ((joined (kids ts i)).map natsD) := by
      have q := rn_listA (s := S ps (some (nD i)) (some .none) c h m x) (ra_cons (ev_kidsR (ts := ts) (i := i) (fb := getSl 3) (rn_get (k := 1) (sv := .own (.list (belowL ts))) rfl) rfl rfl (ev_get rfl) hi) ra_nil) rfl rfl
      exact it_seq (d := .list ((joined (kids ts i)).map natsD)) (rn_callP (es := [.list ((kids ts i).map nD)]) (ra_cons q ra_nil) rfl (run_law_joined (kids ts i) (hl i))) rfl
    exact (it.bind).trans h1
  obtain ⟨s', h1, a, b, c, h, m, x, h2⟩ := for_idx (s := S [] none none none none none none) (g := putSl 3) (fb := (thenS (rAsg rN (putSl 4))
 (thenS (rFor (rItems (rC (callD f_u_law_joined [false]) (rAc (rC gListA (rAc (rO gIx (getSl 1) (getSl 3)) rA0)) rA0))) (putSl 5)
 (thenS (tupN 2 (rAc (rI 0) (rAc (rI 0) rA0)) (gsCons (putSl 6) (gsCons (putSl 7) gsNil)))
 (thenS (rFor (rItems (getSl 5)) (putSl 8)
 (rPar 7 6 (rAc (rC gMax (rAc (getSl 7) (rAc (rO gAdd (getSl 6) (rO gIx (getSl 2) (getSl 8))) rA0))) (rAc (rO gAdd (getSl 6) (rO gIx (rO gIx (getSl 0) (getSl 8)) (rI 2))) rA0))))
 (thenS (rAsg (rC gMax (rAc (getSl 7) (rAc (rO gAdd (getSl 6) (rO gIx (rO gIx (getSl 0) (getSl 3)) (rI 1))) rA0))) (putSl 7))
 (rAsg (rIfE (rT (rO (gIsN false) (getSl 4) rN)) (getSl 7) (rC gMin (rAc (getSl 4) (rAc (getSl 7) rA0)))) (putSl 4))))))
 (rExpr (rAppend (getSl 2) (rAc (getSl 4) rA0)))))) nD ts.length (fun i s => ∃ a b c h m x, s = S (pkTo ts i) a b c h m x) ⟨none, none, none, none, none, none, rfl⟩ fun i s hi ⟨a, b, c, h, m, x, es⟩ => by
    subst es
    obtain ⟨s', q1, c', h', m', x', q2⟩ := orders (pkTo ts i) i c h m x hi (pkTo_len ts i)
    have hb : bestOf (costOf (upOf ts) (intAt (pkTo ts i)) (frOf ts i)) (joined (kids ts i)) = some (pkOf ts (pkTo ts i) i) := least_all hu (turn_perm _ _ _) (kids_nodup ts i) (turn_sorted _ _ _)
    rw [hb] at q2
    subst q2
    refine ⟨S (pkTo ts i) (some (nD i)) b c h m x, S (pkTo ts (i + 1)) (some (nD i)) (some (.int (pkOf ts (pkTo ts i) i))) c' h' m' x', by cases a <;> rfl, (then_nx (s1 := S (pkTo ts i) (some (nD i)) (some .none) c h m x) (st_asg ev_none (by cases b <;> rfl))).trans ((then_nx q1).trans ?_), some (nD i), some (.int (pkOf ts (pkTo ts i) i)), c', h', m', x', rfl⟩
    rw [st_appI (k := 2) (xs := pkTo ts i) (i := pkOf ts (pkTo ts i) i) rfl (ev_get rfl) (by rw [pkTo_len]; omega)]
    rfl
  subst h2
  let S0 : DS := [some (.dat (tksD ts)), none, none, none, none, none, none, none, none]
  refine runF_at (n := 9) (i := 2) (b := b_u_law_least) (es := [tksD ts]) (s1 := S (pks ts) a b c h m x) ?_ rfl
  unfold b_u_law_least
  have e0 : rPar 1 2 (rAc (rC (callD f_u_law_children [false]) (rAc (getSl 0) rA0)) (rAc (rC mkL rA0) rA0)) S0 = some (.ok .nx (S [] none none none none none none)) := by
    have q : Rn (rAc (rC (callD f_u_law_children [false]) (rAc (getSl 0) rA0)) (rAc (rC mkL rA0) rA0)) S0 [.new (.list (belowL ts)), .new (.list [])] := ra_cons (rn_call (es := [tksD ts]) (ra_cons (ev_get rfl) ra_nil) (run_law_children (by omega))) (ra_cons (rn_lst (es := []) ra_nil (Nat.zero_le _)) ra_nil)
    unfold rPar
    rw [q.bind]
    rfl
  refine (then_nx (s := S0) e0).trans ?_
  refine (then_nx ((it_len (s := S [] none none none none none none) (k := 0) rfl (by omega)).bind.trans h1)).trans ?_
  exact st_ret (rn_get (k := 2) (sv := .own (.list ((pks ts).map .int))) rfl)
end Den
/-! PY: _law_some -/
namespace Den
open PySem PyProof.Rows L2 K70
theorem rowsOf_snoc (u p : Nat → Int) (c : Nat) : ∀ (l acc : List Nat) (h : Int), rowsOf u p h acc (l ++ [c]) = rowsOf u p h acc l ++ [(h + sumOf u l + p c, acc ++ l ++ [c])]
  | [], acc, h => by
    show [(h + p c, acc ++ [c])] = [(h + 0 + p c, acc ++ [] ++ [c])]
    rw [Int.add_zero, List.append_nil]
  | x :: l, acc, h => by
    show (h + p x, acc ++ [x]) :: rowsOf u p (h + u x) (acc ++ [x]) (l ++ [c]) = (h + p x, acc ++ [x]) :: rowsOf u p (h + u x) (acc ++ [x]) l ++ [_]
    rw [rowsOf_snoc u p c l (acc ++ [x]) (h + u x)]
    show _ = (h + p x, acc ++ [x]) :: (rowsOf u p (h + u x) (acc ++ [x]) l ++ [(h + (u x + sumOf u l) + p c, acc ++ x :: l ++ [c])])
    rw [show h + u x + sumOf u l + p c = h + (u x + sumOf u l) + p c by omega]
    simp
theorem rowsOf_len (u p : Nat → Int) : ∀ (l acc : List Nat) (h : Int), (rowsOf u p h acc l).length = l.length
  | [], _, _ => rfl
  | x :: l, acc, h => by
    show (rowsOf u p (h + u x) (acc ++ [x]) l).length + 1 = _
    rw [rowsOf_len u p l]
    rfl
theorem foldl_max {α : Type} (f : α → Int) : ∀ (l : List α) (m : Int), m ≤ l.foldl (fun m r => max m (f r)) m ∧ (∀ r ∈ l, f r ≤ l.foldl (fun m r => max m (f r)) m) ∧ (l.foldl (fun m r => max m (f r)) m = m ∨ ∃ r ∈ l, l.foldl (fun m r => max m (f r)) m = f r)
  | [], m => ⟨Int.le_refl m, (fun r hr => by cases hr), .inl rfl⟩
  | a :: l, m => by
    obtain ⟨h1, h2, h3⟩ := foldl_max f l (max m (f a))
    rw [List.foldl_cons]
    refine ⟨by omega, fun r hr => ?_, ?_⟩
    · rcases List.mem_cons.mp hr with rfl | hr
      · omega
      · exact h2 r hr
    · rcases h3 with h | ⟨r, hr, h⟩
      · by_cases hm : f a ≤ m
        · exact .inl (by omega)
        · exact .inr ⟨a, List.mem_cons_self, by omega⟩
      · exact .inr ⟨r, List.mem_cons_of_mem _ hr, h⟩
theorem maxL_foldl {α : Type} (f : α → Int) (l : List α) (m : Int) : maxL (l.map f ++ [m]) = l.foldl (fun m r => max m (f r)) m := by
  obtain ⟨h1, h2, h3⟩ := foldl_max f l m
  refine (maxL_uniq (ns := l.map f ++ [m]) ?_ ?_).symm
  · rcases h3 with h | ⟨r, hr, h⟩
    · rw [h]
      exact List.mem_append_right _ List.mem_cons_self
    · rw [h]
      exact List.mem_append_left _ (List.mem_map.mpr ⟨r, hr, rfl⟩)
  · intro y hy
    rcases List.mem_append.mp hy with hy | hy
    · obtain ⟨r, hr, rfl⟩ := List.mem_map.mp hy
      exact h2 r hr
    · rw [List.mem_singleton.mp hy]
      exact h1
theorem lc_fi {vs : List Nat} {fi : M (List D)} {g : R → M Unit} {ft : M Bool} {fe : M R} {s s1 : DS} {items : List D} {r : R} (h : Rs fi s items s1) (h2 : Rn (lcD vs (pure items) g ft fe) s1 r) : Rs (lcD vs fi g ft fe) s r s1 := by
  unfold Rs lcD
  rw [h.bind]
  exact h2
/-- an own list that is walked is plain data from then on -/
theorem it_own {s : DS} {k : Nat} {es : List D} (hk : s[k]? = some (some (.own (.list es)))) : Rs (rItems (getSl k)) s es (s.set k (some (.dat (.list es)))) := by
  unfold Rs rItems
  rw [(rn_get hk).bind]
  show itemsOf (.at k) s = _
  unfold itemsOf
  refine (bind_ok (a := .list es) (s' := s.set k (some (.dat (.list es)))) ?_).trans rfl
  show (match s[k]? with | some (some (.dat d)) => some (Res.ok d s) | some (some (.own d)) => some (.ok d (s.set k (some (.dat d)))) | _ => none) = _
  rw [hk]
theorem run_law_some {ts : List Tk} {ps : List Int} {i : Nat} (hb : ps.length = ts.length) (hi : i < ts.length) (hn : ts.length ≤ 1000) (hu : UpOk ts) (hf : 0 ≤ frOf ts i) :
    f_u_law_some [(false, tksD ts), (false, .list (ps.map .int)), (false, .list (belowL ts)), (false, nD i)] = some (.ok (.dat (natsD (toldV ts ps i (kids ts i)))) []) := by
  let u := upOf ts
  let p := intAt ps
  let t := turnOf u p (kids ts i)
  have htl : t.length ≤ 1000 := by
    have := kids_len ts i
    have e : t.length = (kids ts i).length := (turn_perm _ _ _).length_eq
    omega
  have htk : ∀ c ∈ t, c < ts.length := fun c hc => kids_lt ((turn_perm _ _ _).mem_iff.mp hc)
  let S (h s r x m a b : Option SV) : DS := [some (.dat (tksD ts)), some (.dat (.list (ps.map .int))), some (.dat (.list (belowL ts))), some (.dat (nD i)), h, s, r, x, m, a, b]
  let U (pre : List Nat) (x m : Option D) : DS := S (some (.dat (.int (sumOf u pre)))) (some (.dat (natsD pre))) (some (.own (.list ((rowsOf u p 0 [] pre).map rowD)))) (x.map .dat) (m.map .dat) none none
  have e0 : par3D 4 5 6 (rAc (rI 0) (rAc (rC mkT rA0) (rAc (rC mkL rA0) rA0))) (S none none none none none none none) = some (.ok .nx (U [] none none)) := by
    have q : Rn (rAc (rI 0) (rAc (rC mkT rA0) (rAc (rC mkL rA0) rA0))) (S none none none none none none none) [.dat (.int 0), .dat (.tuple []), .new (.list [])] := ra_cons ev_int (ra_cons (ev_tup (es := []) ra_nil (Nat.zero_le _)) (ra_cons (rn_lst (es := []) ra_nil (Nat.zero_le _)) ra_nil))
    unfold par3D
    rw [q.bind]
    rfl
  have it : Rn (rItems (rC (callD f_u_law_turn [false, false, false]) (rAc (getSl 0) (rAc (getSl 1) (rAc (rO gIx (getSl 2) (getSl 3)) rA0))))) (U [] none none) (t.map nD) :=
    it_new (d := .list (t.map nD)) (rn_call (es := [tksD ts, .list (ps.map .int), natsD (kids ts i)]) (ra_cons (ev_get rfl) (ra_cons (ev_get rfl) (ra_cons (ev_kids (ts := ts) (i := i) (ev_get (d := .list (belowL ts)) rfl) rfl (ev_get rfl) hi) ra_nil))) (run_law_turn hb (fun c hc => kids_lt hc) (by have := kids_len ts i; omega))) rfl
  obtain ⟨s', h1, x, h2⟩ := for_pre (s := U [] none none) (g := putSl 7) (fb := thenS (rAsg (rO gAdd (getSl 5) (rC mkT (rAc (getSl 7) rA0))) (putSl 5))
 (thenS (rExpr (rAppend (getSl 6) (rAc (rC mkT (rAc (rO gAdd (getSl 4) (rO gIx (getSl 1) (getSl 7))) (rAc (getSl 5) rA0))) rA0)))
 (rAsg (rO gAdd (getSl 4) (rO gIx (rO gIx (getSl 0) (getSl 7)) (rI 2))) (putSl 4)))) nD t (fun pre s => ∃ x, s = U pre x none) ⟨none, rfl⟩ fun pre c post s e ⟨x, es⟩ => by
    subst es
    have hc : c < ts.length := htk c (by rw [e]; exact List.mem_append_right _ List.mem_cons_self)
    have hpl : pre.length ≤ 1000 := by
      have := congrArg List.length e
      rw [List.length_append] at this
      omega
    let row : Int × List Nat := (sumOf u pre + p c, pre ++ [c])
    let V (h : Int) (r : List (Int × List Nat)) : DS := S (some (.dat (.int h))) (some (.dat (natsD (pre ++ [c])))) (some (.own (.list (r.map rowD)))) (some (.dat (nD c))) none none none
    have g1 : rAsg (rO gAdd (getSl 5) (rC mkT (rAc (getSl 7) rA0))) (putSl 5) (U pre (some (nD c)) none) = some (.ok .nx (V (sumOf u pre) (rowsOf u p 0 [] pre))) := by
      have q := ev_addT (s := U pre (some (nD c)) none) (as := pre.map nD) (ev_get (k := 5) rfl) (ev_tup (es := [nD c]) (ra_cons (ev_get (k := 7) rfl) ra_nil) (show 1 ≤ 16777216 by decide)) (by rw [List.length_map]; show _ + 1 ≤ _; omega)
      have e1 : pre.map nD ++ [nD c] = (pre ++ [c]).map nD := (List.map_append (f := nD) (l₁ := pre) (l₂ := [c])).symm
      rw [e1] at q
      exact st_asg q rfl
    have g2 : rExpr (rAppend (getSl 6) (rAc (rC mkT (rAc (rO gAdd (getSl 4) (rO gIx (getSl 1) (getSl 7))) (rAc (getSl 5) rA0))) rA0)) (V (sumOf u pre) (rowsOf u p 0 [] pre)) = some (.ok .nx (V (sumOf u pre) (rowsOf u p 0 [] pre ++ [row]))) := by
      have q : Ev (rC mkT (rAc (rO gAdd (getSl 4) (rO gIx (getSl 1) (getSl 7))) (rAc (getSl 5) rA0))) (V (sumOf u pre) (rowsOf u p 0 [] pre)) (rowD row) := ev_tup (es := [.int (sumOf u pre + p c), natsD (pre ++ [c])]) (ra_cons (ev_add (ev_get rfl) (ev_at (bs := ps) (c := c) (ev_get (d := .list (ps.map .int)) rfl) rfl (ev_get rfl) (by rw [hb]; exact hc))) (ra_cons (ev_get rfl) ra_nil)) (show 2 ≤ 16777216 by decide)
      rw [st_app (k := 6) (es := (rowsOf u p 0 [] pre).map rowD) rfl q (by rw [List.length_map, rowsOf_len]; omega)]
      have e1 : (rowsOf u p 0 [] pre).map rowD ++ [rowD row] = (rowsOf u p 0 [] pre ++ [row]).map rowD := (List.map_append (f := rowD) (l₁ := rowsOf u p 0 [] pre) (l₂ := [row])).symm
      show some (Res.ok Fl.nx (S _ _ (some (.own (.list ((rowsOf u p 0 [] pre).map rowD ++ [rowD row])))) _ _ _ _)) = _
      rw [e1]
    have er : rowsOf u p 0 [] (pre ++ [c]) = rowsOf u p 0 [] pre ++ [row] := by
      rw [rowsOf_snoc, Int.zero_add]
      rfl
    have es : sumOf u (pre ++ [c]) = sumOf u pre + u c := by
      rw [sumOf_append]
      show sumOf u pre + (u c + 0) = _
      rw [Int.add_zero]
    refine ⟨U pre (some (nD c)) none, U (pre ++ [c]) (some (nD c)) none, by cases x <;> rfl, (then_nx g1).trans ((then_nx g2).trans ?_), some (nD c), rfl⟩
    show _ = some (Res.ok Fl.nx (S (some (.dat (.int (sumOf u (pre ++ [c]))))) (some (.dat (natsD (pre ++ [c])))) (some (.own (.list ((rowsOf u p 0 [] (pre ++ [c])).map rowD)))) (some (.dat (nD c))) none none none))
    rw [er, es]
    exact st_asg (ev_add (ev_get rfl) (ev_up (ts := ts) (c := c) (ev_get rfl) (ev_get rfl) hc)) rfl
  subst h2
  let R := rowsOf u p 0 [] t
  have hRl : R.length = t.length := rowsOf_len u p t [] 0
  let best := (toldGo u p 0 [] (-1) [] t).1
  let tset := (toldGo u p 0 [] (-1) [] t).2
  obtain ⟨q1, q2⟩ := told_spec (u := u) (p := p) t [] 0 (-1) []
  let W (m : Option D) : DS := S (some (.dat (.int (sumOf u t)))) (some (.dat (natsD t))) (some (.dat (.list (R.map rowD)))) (x.map .dat) (m.map .dat) none none
  have g1 : rAsg (rC gMax (rAc (rO gAdd (lcD [9, 10] (rItems (getSl 6)) (unT 2 (gsCons (putSl 9) (gsCons (putSl 10) gsNil))) (pure true) (getSl 9)) (rC mkL (rAc (rNeg (rI 1)) rA0))) rA0)) (putSl 8) (U t x none) = some (.ok .nx (W (some (.int best)))) := by
    have a1 := lc_mapT (vs := [9, 10]) (fi := pure (R.map rowD)) (g := unT 2 (gsCons (putSl 9) (gsCons (putSl 10) gsNil))) (fe := getSl 9) (s := W none) (l := R) rowD (fun r => .int r.1) rfl rfl (by omega) fun r hr => ⟨S (some (.dat (.int (sumOf u t)))) (some (.dat (natsD t))) (some (.dat (.list (R.map rowD)))) (x.map .dat) none (some (.dat (.int r.1))) (some (.dat (natsD r.2))), rfl, rfl, ev_get rfl⟩
    have e1 : R.map (fun r => (.int r.1 : D)) = (bds R).map .int := by
      unfold bds
      rw [List.map_map]
      rfl
    rw [e1] at a1
    have a2 : Rs (lcD [9, 10] (rItems (getSl 6)) (unT 2 (gsCons (putSl 9) (gsCons (putSl 10) gsNil))) (pure true) (getSl 9)) (U t x none) (.new (.list ((bds R).map .int))) (W none) := lc_fi (it_own (k := 6) rfl) a1
    have a3 := rs_o (g := gAdd) a2 (Rn.rs (rn_lst (s := W none) (es := [.int (-1)]) (ra_cons (ev_neg ev_int) ra_nil) (show 1 ≤ 16777216 by decide))) (rn_addL (s := W none) (fa := pure (.new (.list ((bds R).map .int)))) (fb := pure (.new (.list [.int (-1)]))) (as := (bds R).map .int) (bs := [.int (-1)]) rfl rfl rfl rfl (by unfold bds; rw [List.length_map, List.length_map]; show _ + 1 ≤ _; omega))
    have e2 : (bds R).map PyData.int ++ [.int (-1)] = ((bds R) ++ [(-1)]).map .int := by
      rw [List.map_append]
      rfl
    rw [e2] at a3
    have z : Rn (pure [.new (.list ((bds R ++ [(-1)]).map .int))] : M (List Den.R)) (W none) [.new (.list ((bds R ++ [(-1)]).map .int))] := rfl
    have a5 : Ev (rC gMax (pure [.new (.list ((bds R ++ [(-1)]).map .int))])) (W none) (.int (maxL (bds R ++ [(-1)]))) := ev_max z rfl (by simp)
    have a5 : gMax [.new (.list ((bds R ++ [(-1)]).map .int))] (W none) = some (.ok (.dat (.int (maxL (bds R ++ [(-1)])))) (W none)) := a5
    have a4 := rs_c (g := gMax) (rs_cons a3 (ra_nil (s := W none))) a5
    unfold bds at a4
    rw [maxL_foldl (fun r : Int × List Nat => r.1) R (-1)] at a4
    rw [show R.foldl (fun m r => max m r.1) (-1) = best from q1.symm] at a4
    exact st_asgS a4 (by cases x <;> rfl)
  have hsum : sumOf u t = sumOf (upOf ts) (turnOf (upOf ts) (intAt ps) (kids ts i)) := rfl
  have tst := rt_val (ev_le (s := W (some (.int best))) (ev_get (k := 8) (d := .int best) rfl) (ev_add (ev_get (k := 4) (d := .int (sumOf u t)) rfl) (ev_fr (ts := ts) (c := i) (fa := getSl 0) (fb := getSl 3) (ev_get rfl) (ev_get rfl) hi)))
  refine runF_dat (n := 11) (b := b_u_law_some) (es := [tksD ts, .list (ps.map .int), .list (belowL ts), nD i]) (s1 := W (some (.int best))) ?_
  unfold b_u_law_some
  refine (then_nx (s := S none none none none none none none) e0).trans ((then_nx (it.bind.trans h1)).trans ((then_nx g1).trans ?_))
  by_cases hle : best ≤ sumOf u t + frOf ts i
  · rw [decide_eq_true hle] at tst
    have e : toldV ts ps i (kids ts i) = [] := if_neg (by
      show ¬ best > sumOf u t + frOf ts i
      omega)
    rw [e]
    refine then_rt ((st_if tst).trans ?_)
    rw [if_pos rfl]
    exact st_ret (ev_tup (es := []) ra_nil (Nat.zero_le _))
  · rw [decide_eq_false hle] at tst
    have e : toldV ts ps i (kids ts i) = sortN tset := if_pos (by
      show best > sumOf u t + frOf ts i
      omega)
    rw [e]
    refine (then_nx (s1 := W (some (.int best))) ((st_if tst).trans rfl)).trans (st_ret ?_)
    have hpos := sumOf_nonneg hu t
    have hfind : R.find? (fun row => row.1 == best) = some (best, tset) := by
      rcases q2 with ⟨j1, _⟩ | ⟨_, j2⟩
      · have e : best = -1 := congrArg Prod.fst j1
        have hpos : 0 ≤ sumOf u t := hpos
        omega
      · exact j2
    have a1 := lc_T (vs := [9, 10]) (fi := rItems (getSl 6)) (g := unT 2 (gsCons (putSl 9) (gsCons (putSl 10) gsNil))) (ft := rT (rO gEq (getSl 9) (getSl 8))) (fe := getSl 10) (s := W (some (.int best))) (l := R) rowD (fun r => r.1 == best) (fun r => natsD r.2) (it_seq (d := .list (R.map rowD)) (ev_get rfl) rfl) rfl (by omega) fun r hr => ⟨S (some (.dat (.int (sumOf u t)))) (some (.dat (natsD t))) (some (.dat (.list (R.map rowD)))) (x.map .dat) (some (.dat (.int best))) (some (.dat (.int r.1))) (some (.dat (natsD r.2))), rfl, rfl, by
        have q := rt_val (rn_eq (s := S (some (.dat (.int (sumOf u t)))) (some (.dat (natsD t))) (some (.dat (.list (R.map rowD)))) (x.map .dat) (some (.dat (.int best))) (some (.dat (.int r.1))) (some (.dat (natsD r.2)))) (ev_get (k := 9) (d := .int r.1) rfl) (ev_get (k := 8) (d := .int best) rfl) rfl rfl rfl rfl)
        exact q, fun _ => ev_get rfl⟩
    have hh : (R.filter fun r => r.1 == best).head? = some (best, tset) := by
      rw [List.head?_filter]
      exact hfind
    obtain ⟨rest, hrest⟩ : ∃ rest, R.filter (fun r => r.1 == best) = (best, tset) :: rest := by
      cases hR : R.filter (fun r => r.1 == best) with
      | nil => rw [hR] at hh; cases hh
      | cons y rest =>
        rw [hR] at hh
        cases hh
        exact ⟨rest, rfl⟩
    rw [hrest] at a1
    have a2 : Ev (rO gIx (lcD [9, 10] (rItems (getSl 6)) (unT 2 (gsCons (putSl 9) (gsCons (putSl 10) gsNil))) (rT (rO gEq (getSl 9) (getSl 8))) (getSl 10)) (rI 0)) (W (some (.int best))) (natsD tset) := rn_ix a1 (ev_int (i := 0)) rfl rfl rfl (atI_map (f := fun r : Int × List Nat => natsD r.2) (l := (best, tset) :: rest) (c := 0) (Nat.succ_pos _))
    have a3 := rn_sortI (ra_cons a2 ra_nil) (d := natsD tset) rfl (ns := tset.map fun (n : Nat) => (n : Int)) (by rw [← nats_int]; rfl)
    rw [sortI_nats, ← nats_int] at a3
    exact ev_tupOf (ra_cons a3 ra_nil) rfl
end Den
/-! PZ: _law_right -/
namespace Den
open PySem PyProof.Rows L2 K70
structure Nice (ts : List Tk) (B : Int) (v : Pap) : Prop where
  len : v.length = ts.length
  ok : ∀ (i : Nat) (r : Int × List Nat), v[i]? = some r → 0 ≤ r.1 ∧ r.1 ≤ B ∧ r.2.Sublist (kids ts i)
theorem kvsOf_ones : ∀ l : List Nat, kvsOf (l.map fun c => (.tuple [nD c, .int 1] : D)) = some (l.map fun (c : Nat) => ((.inl (c : Int) : Key), (.int 1 : D)))
  | [] => rfl
  | c :: l => by
    rw [List.map_cons, List.map_cons]
    unfold kvsOf
    rw [kvsOf_ones l]
    rfl
theorem merge_ones : ∀ (l pre : List Nat), (pre ++ l).Nodup → mergeD (pre.map fun c => (nD c, (.int 1 : D))) (l.map fun (c : Nat) => ((.inl (c : Int) : Key), (.int 1 : D))) = (pre ++ l).map fun c => (nD c, .int 1)
  | [], pre, _ => by
    rw [List.append_nil]
    rfl
  | c :: l, pre, h => by
    have h2 : (pre ++ [c] ++ l).Nodup := by
      rw [List.append_assoc]
      exact h
    have hc : c ∉ pre := fun hm => (List.nodup_append.mp h).2.2 c hm c List.mem_cons_self rfl
    have e1 : putD (nD c) (.int 1) (pre.map fun c => (nD c, (.int 1 : D))) = (pre ++ [c]).map fun c => (nD c, .int 1) := by
      unfold putD
      have e : ((pre.map fun c => (nD c, (.int 1 : D))).any fun p => PyData.eqv p.1 (nD c)) = false := by
        rw [List.any_eq_false]
        intro x hx
        obtain ⟨a, ha, rfl⟩ := List.mem_map.mp hx
        rw [eqv_nD, decide_eq_true_eq]
        exact fun z => hc (z ▸ ha)
      rw [e, if_neg (by simp), List.map_append]
      rfl
    have ih := merge_ones l (pre ++ [c]) h2
    rw [← e1] at ih
    rw [List.map_cons]
    show mergeD (putD (nD c) (.int 1) (pre.map fun c => (nD c, (.int 1 : D)))) _ = _
    rw [ih, List.append_assoc]
    rfl
theorem seqOf_ones : ∀ l : List Nat, seqOf (.dict (l.map fun c => (nD c, (.int 1 : D)))) = none
  | [] => rfl
  | [_] => rfl
  | _ :: _ :: _ => rfl
theorem eqvAll_nats : ∀ l : List Nat, PyData.eqvAll (l.map nD) (l.map nD) = true
  | [] => by simp [PyData.eqvAll]
  | c :: l => by
    rw [List.map_cons]
    unfold PyData.eqvAll
    rw [eqvAll_nats l, eqv_nD]
    simp
theorem range_sorted (n : Nat) : (List.range n).Pairwise (· < ·) := List.pairwise_lt_range
theorem kids_sorted (ts : List Tk) (i : Nat) : (kids ts i).Pairwise (· < ·) := (range_sorted _).filter _
theorem sub_sorted {ts : List Tk} {i : Nat} {l : List Nat} (h : l.Sublist (kids ts i)) : l.Pairwise (· < ·) := (kids_sorted ts i).sublist h
theorem sortN_id {l : List Nat} (h : l.Pairwise (· < ·)) : sortN l = l :=
  List.mergeSort_of_pairwise (h.imp fun z => decide_eq_true (Nat.le_of_lt z))
theorem nodup_of {l : List Nat} (h : l.Pairwise (· < ·)) : l.Nodup := h.imp fun z => Nat.ne_of_lt z
theorem inD_of {c : Nat} {cs : List Nat} (h : c ∈ cs) : inD (nD c) (cs.map nD) = true := by
  unfold inD
  rw [List.any_eq_true]
  exact ⟨nD c, List.mem_map.mpr ⟨c, h, rfl⟩, by rw [eqv_nD]; simp⟩
section
variable {s : DS} {fr : M (List R)} {l : List Nat}
theorem rn_dictP (h : Rn fr s [.new (.list (l.map fun c => (.tuple [nD c, .int 1] : D)))]) (nd : l.Nodup) : Rn (rC gDictP fr) s (.new (.dict (l.map fun c => (nD c, (.int 1 : D))))) := rn_c h (by
  unfold gDictP
  rw [bind_ok (m := one _) (a := .new (.list (l.map fun c => (.tuple [nD c, .int 1] : D)))) (s' := s) rfl, bind_ok (m := dat _) (a := .list (l.map fun c => (.tuple [nD c, .int 1] : D))) (s' := s) rfl]
  simp only
  rw [kvsOf_ones]
  simp only
  have e := merge_ones l [] nd
  rw [List.map_nil, List.nil_append] at e
  rw [e]
  rfl)
theorem rn_keys (h : Rn fr s [.new (.dict (l.map fun c => (nD c, (.int 1 : D))))]) : Rn (rC gListA fr) s (.new (.list (l.map nD))) := rn_c h (by
  unfold gListA
  rw [bind_ok (m := one _) (a := .new (.dict (l.map fun c => (nD c, (.int 1 : D))))) (s' := s) rfl, bind_ok (m := dat _) (a := .dict (l.map fun c => (nD c, (.int 1 : D)))) (s' := s) rfl, seqOf_ones]
  simp only
  rw [List.map_map]
  rfl)
end
theorem minL_le {ns : List Int} {b : Int} (h : ns ≠ []) : decide (b ≤ minL ns) = ns.all fun x => decide (b ≤ x) := by
  obtain ⟨h1, h2⟩ := minL_spec h
  by_cases hb : b ≤ minL ns
  · rw [decide_eq_true hb]
    refine (List.all_eq_true.mpr fun x hx => decide_eq_true ?_).symm
    have := h2 x hx
    omega
  · rw [decide_eq_false hb]
    refine (List.all_eq_false.mpr ⟨_, h1, ?_⟩).symm
    rw [decide_eq_true_eq]
    exact hb
theorem run_law_right {ts : List Tk} {v : Pap} {B : Int} (hn : ts.length ≤ 1000) (hv : Nice ts B v) :
    f_u_law_right [(false, tksD ts), (false, .list (belowL ts)), (false, papD v)] = some (.ok (.dat (.bool (shownAll ts v))) []) := by
  let S (a b c d e : Option SV) : DS := [some (.dat (tksD ts)), some (.dat (.list (belowL ts))), some (.dat (papD v)), a, b, c, d, e]
  have hlen := hv.len
  have hvb : (bds v).length = ts.length := by unfold bds; rw [List.length_map]; exact hlen
  obtain ⟨s', q⟩ := for_idxB (s := S none none none none none) (g := putSl 3) (fb := thenS (rAsg (rO gIx (getSl 2) (getSl 3)) (unT 2 (gsCons (putSl 4) (gsCons (putSl 5) gsNil))))
 (thenS (rIf (orT (rT (rO gLt (getSl 4) (rI 0))) (orT (rT (rO gNe (lcD [7] (rItems (getSl 5)) (putSl 7) (rT (rO (gIn true) (getSl 7) (rO gIx (getSl 1) (getSl 3)))) (getSl 7)) (rC mkL rA0))) (rT (rO gNe (rC gListA (rAc (getSl 5) rA0)) (rC gSorted (rAc (rC gListA (rAc (rC gDictP (rAc (lcD [7] (rItems (getSl 5)) (putSl 7) (pure true) (rC mkT (rAc (getSl 7) (rAc (rI 1) rA0)))) rA0)) rA0)) rA0))))))
 (rRet (rB false))
 (pure .nx))
 (rIf (rT (rO gEq (getSl 5) (rC mkT rA0)))
 (rIf (rT (rO gGt (getSl 4) (rO gAdd (rC gSum (rAc (lcD [7] (rItems (rO gIx (getSl 1) (getSl 3))) (putSl 7) (pure true) (rO gIx (rO gIx (getSl 0) (getSl 7)) (rI 2))) rA0)) (rO gIx (rO gIx (getSl 0) (getSl 3)) (rI 1)))))
 (rRet (rB false))
 (pure .nx))
 (thenS (rAsg (rC gSum (rAc (lcD [7] (rItems (getSl 5)) (putSl 7) (pure true) (rO gIx (rO gIx (getSl 0) (getSl 7)) (rI 2))) rA0)) (putSl 6))
 (rIf (rT (rO gNe (lcD [7] (rItems (getSl 5)) (putSl 7) (rT (rO gGt (getSl 4) (rO gAdd (rO gSub (getSl 6) (rO gIx (rO gIx (getSl 0) (getSl 7)) (rI 2))) (rO gIx (rO gIx (getSl 2) (getSl 7)) (rI 0))))) (getSl 7)) (rC mkL rA0)))
 (rRet (rB false))
 (pure .nx)))))) nD (fun i => shownB ts (bds v) i (somAt v i)) (.dat (.bool false)) ts.length (fun _ s => ∃ a b c d : Option D, s = S (a.map .dat) (b.map .dat) (c.map .dat) (d.map .dat) none) ⟨none, none, none, none, rfl⟩ fun i s hi ⟨a, b, c, d, es⟩ => by
    subst es
    have hiv : i < v.length := by omega
    obtain ⟨h0, hB, hsub⟩ := hv.ok i v[i] (List.getElem?_eq_getElem hiv)
    generalize hr : v[i] = r at h0 hB hsub
    obtain ⟨bd, sm⟩ := r
    have h0 : 0 ≤ bd := h0
    have hsub : sm.Sublist (kids ts i) := hsub
    have hin : ∀ c ∈ sm, c ∈ kids ts i := fun c hc => hsub.subset hc
    have hlt : ∀ c ∈ sm, c < ts.length := fun c hc => kids_lt (hin c hc)
    have hso := sub_sorted hsub
    have hsl : sm.length ≤ 1000 := by
      have h1 := hsub.length_le
      have h2 := kids_len ts i
      omega
    have ebd : intAt (bds v) i = bd := by
      unfold intAt bds
      rw [List.getElem?_map, List.getElem?_eq_getElem hiv, hr]
      rfl
    have esm : somAt v i = sm := by
      unfold somAt
      rw [List.getElem?_eq_getElem hiv, hr]
      rfl
    rw [esm]
    let U (d e : Option SV) : DS := S (some (.dat (nD i))) (some (.dat (.int bd))) (some (.dat (natsD sm))) d e
    let D1 : Option SV := d.map .dat
    have g1 : rAsg (rO gIx (getSl 2) (getSl 3)) (unT 2 (gsCons (putSl 4) (gsCons (putSl 5) gsNil))) (S (some (.dat (nD i))) (b.map .dat) (c.map .dat) D1 none) = some (.ok .nx (U D1 none)) := by
      have q : Ev (rO gIx (getSl 2) (getSl 3)) (S (some (.dat (nD i))) (b.map .dat) (c.map .dat) D1 none) (rowD (bd, sm)) := by
        have q := ev_ix (s := S (some (.dat (nD i))) (b.map .dat) (c.map .dat) D1 none) (fa := getSl 2) (fb := getSl 3) (ev_get (d := papD v) rfl) (ev_get (d := nD i) rfl) rfl (atI_map (f := rowD) hiv)
        rw [hr] at q
        exact q
      exact st_asg q (by cases b <;> cases c <;> rfl)
    have c1 : Rn (rT (rO gLt (getSl 4) (rI 0))) (U D1 none) false := by
      have q := rt_val (ev_lt (s := U D1 none) (ev_get (k := 4) (d := .int bd) rfl) (ev_int (i := 0)))
      rwa [decide_eq_false (by omega)] at q
    have c2 : Rn (rT (rO gNe (lcD [7] (rItems (getSl 5)) (putSl 7) (rT (rO (gIn true) (getSl 7) (rO gIx (getSl 1) (getSl 3)))) (getSl 7)) (rC mkL rA0))) (U D1 none) false := by
      have q := lc_T (vs := [7]) (fi := rItems (getSl 5)) (g := putSl 7) (ft := rT (rO (gIn true) (getSl 7) (rO gIx (getSl 1) (getSl 3)))) (fe := getSl 7) (s := U D1 none) (l := sm) nD (fun _ => false) nD (it_seq (d := natsD sm) (ev_get rfl) rfl) rfl (by omega) fun c hc => by
        refine ⟨U D1 (some (.dat (nD c))), rfl, rfl, ?_, fun _ => ev_get rfl⟩
        have q := rt_val (ev_inS (neg := true) (s := U D1 (some (.dat (nD c)))) (fa := getSl 7) (fb := rO gIx (getSl 1) (getSl 3)) (a := nD c) (b := natsD (kids ts i)) (ev_get rfl) (ev_kids (ts := ts) (i := i) (ev_get (d := .list (belowL ts)) rfl) rfl (ev_get rfl) hi) rfl rfl rfl rfl (flat_nats _))
        rw [inD_of (hin c hc)] at q
        exact q
      have q2 := rt_val (ev_neNil q rfl shp_nat_mem)
      rwa [List.filter_eq_nil_iff.mpr (fun a _ => by simp)] at q2
    have c3 : Rn (rT (rO gNe (rC gListA (rAc (getSl 5) rA0)) (rC gSorted (rAc (rC gListA (rAc (rC gDictP (rAc (lcD [7] (rItems (getSl 5)) (putSl 7) (pure true) (rC mkT (rAc (getSl 7) (rAc (rI 1) rA0)))) rA0)) rA0)) rA0)))) (U D1 none) false := by
      have q1 := rn_listA (s := U D1 none) (ra_cons (ev_get (k := 5) (d := natsD sm) rfl) ra_nil) rfl rfl
      have q2 := lc_mapT (vs := [7]) (fi := rItems (getSl 5)) (g := putSl 7) (fe := rC mkT (rAc (getSl 7) (rAc (rI 1) rA0))) (s := U D1 none) (l := sm) nD (fun c => (.tuple [nD c, .int 1] : D)) (it_seq (d := natsD sm) (ev_get rfl) rfl) rfl (by omega) fun c hc =>
        ⟨U D1 (some (.dat (nD c))), rfl, rfl, ev_tup (es := [nD c, .int 1]) (ra_cons (ev_get rfl) (ra_cons ev_int ra_nil)) (show 2 ≤ 16777216 by decide)⟩
      have q3 := rn_sortI (ra_cons (rn_keys (ra_cons (rn_dictP (ra_cons q2 ra_nil) (nodup_of hso)) ra_nil)) ra_nil) rfl (ns := sm.map fun (n : Nat) => (n : Int)) (by rw [← nats_int]; rfl)
      rw [sortI_nats, ← nats_int, sortN_id hso] at q3
      have q4 := rt_val (rn_ne q1 q3 rfl rfl (shp_ok (shp_natsL sm)) (shp_ok (shp_natsL sm)))
      have e : PyData.eqv (.list (sm.map nD)) (.list (sm.map nD)) = true := by
        unfold PyData.eqv
        exact eqvAll_nats sm
      rw [e] at q4
      exact q4
    have t1 := rt_or c1 fun _ => rt_or c2 fun _ => c3
    refine ⟨S (some (.dat (nD i))) (b.map .dat) (c.map .dat) D1 none, ?_⟩
    have t2 := rt_val (ev_eqNilT (s := U D1 none) (ev_get (k := 5) (d := natsD sm) rfl) rfl (k := 0) shp_nat_mem)
    by_cases he : sm = []
    · subst he
      have t2 : Rn (rT (rO gEq (getSl 5) (rC mkT rA0))) (U D1 none) true := t2
      have e : shownB ts (bds v) i [] = decide (bd ≤ ((kids ts i).map (upOf ts)).sum + frOf ts i) := by
        unfold shownB
        rw [if_pos rfl, ebd]
      have q := lc_mapT (vs := [7]) (fi := rItems (rO gIx (getSl 1) (getSl 3))) (g := putSl 7) (fe := rO gIx (rO gIx (getSl 0) (getSl 7)) (rI 2)) (s := U D1 none) (l := kids ts i) nD (fun c => .int (upOf ts c)) (it_seq (ev_kids (ts := ts) (i := i) (ev_get (d := .list (belowL ts)) rfl) rfl (ev_get rfl) hi) rfl) rfl (by have := kids_len ts i; omega) fun c hc =>
        ⟨U D1 (some (.dat (nD c))), rfl, rfl, ev_up (ts := ts) (c := c) (ev_get rfl) (ev_get rfl) (kids_lt hc)⟩
      have e1 : (kids ts i).map (fun c => (.int (upOf ts c) : D)) = ((kids ts i).map (upOf ts)).map .int := by
        rw [List.map_map]
        rfl
      rw [e1] at q
      have t3 := rt_val (ev_gt (s := U D1 none) (ev_get (k := 4) (d := .int bd) rfl) (ev_add (ev_sum (ra_cons q ra_nil) rfl) (ev_fr (ts := ts) (c := i) (fa := getSl 0) (fb := getSl 3) (ev_get rfl) (ev_get rfl) hi)))
      refine ⟨U D1 none, by cases a <;> rfl, ?_⟩
      rw [e]
      by_cases hb : bd ≤ ((kids ts i).map (upOf ts)).sum + frOf ts i
      · rw [decide_eq_false (by omega)] at t3
        rw [decide_eq_true hb]
        exact ⟨(then_nx g1).trans ((then_nx ((st_if t1).trans rfl)).trans ((st_if t2).trans ((st_if t3).trans rfl))), some (nD i), some (.int bd), some (natsD []), d, rfl⟩
      · rw [decide_eq_true (by omega)] at t3
        rw [decide_eq_false hb]
        exact (then_nx g1).trans ((then_nx ((st_if t1).trans rfl)).trans ((st_if t2).trans ((st_if t3).trans rfl)))
    · have hne : (sm.map nD).isEmpty = false := by
        cases sm with
        | nil => exact absurd rfl he
        | cons x r => rfl
      rw [hne] at t2
      let held : Int := (sm.map (upOf ts)).sum
      have e : shownB ts (bds v) i sm = sm.all fun c => !decide (held - upOf ts c + intAt (bds v) c < bd) := by
        unfold shownB
        rw [if_neg he, ebd, minL_le (by simpa using he), List.all_map]
        refine congrArg (List.all sm) (funext fun c => ?_)
        show decide (bd ≤ held - upOf ts c + intAt (bds v) c) = _
        by_cases h : bd ≤ held - upOf ts c + intAt (bds v) c
        · rw [decide_eq_true h, decide_eq_false (by omega)]
          rfl
        · rw [decide_eq_false h, decide_eq_true (by omega)]
          rfl
      have q := lc_mapT (vs := [7]) (fi := rItems (getSl 5)) (g := putSl 7) (fe := rO gIx (rO gIx (getSl 0) (getSl 7)) (rI 2)) (s := U D1 none) (l := sm) nD (fun c => .int (upOf ts c)) (it_seq (d := natsD sm) (ev_get rfl) rfl) rfl (by omega) fun c hc =>
        ⟨U D1 (some (.dat (nD c))), rfl, rfl, ev_up (ts := ts) (c := c) (ev_get rfl) (ev_get rfl) (hlt c hc)⟩
      have e1 : sm.map (fun c => (.int (upOf ts c) : D)) = (sm.map (upOf ts)).map .int := by
        rw [List.map_map]
        rfl
      rw [e1] at q
      have g2 : rAsg (rC gSum (rAc (lcD [7] (rItems (getSl 5)) (putSl 7) (pure true) (rO gIx (rO gIx (getSl 0) (getSl 7)) (rI 2))) rA0)) (putSl 6) (U D1 none) = some (.ok .nx (U (some (.dat (.int held))) none)) := st_asg (ev_sum (ra_cons q ra_nil) rfl) (by cases d <;> rfl)
      have q3 := lc_T (vs := [7]) (fi := rItems (getSl 5)) (g := putSl 7) (ft := rT (rO gGt (getSl 4) (rO gAdd (rO gSub (getSl 6) (rO gIx (rO gIx (getSl 0) (getSl 7)) (rI 2))) (rO gIx (rO gIx (getSl 2) (getSl 7)) (rI 0))))) (fe := getSl 7) (s := U (some (.dat (.int held))) none) (l := sm) nD (fun c => decide (held - upOf ts c + intAt (bds v) c < bd)) nD (it_seq (d := natsD sm) (ev_get rfl) rfl) rfl (by omega) fun c hc => by
        have hcv : c < v.length := by have := hlt c hc; omega
        have ec : intAt (bds v) c = v[c].1 := by
          unfold intAt bds
          rw [List.getElem?_map, List.getElem?_eq_getElem hcv]
          rfl
        refine ⟨U (some (.dat (.int held))) (some (.dat (nD c))), rfl, rfl, ?_, fun _ => ev_get rfl⟩
        rw [ec]
        exact rt_val (ev_gt (ev_get rfl) (ev_add (ev_sub (ev_get rfl) (ev_up (ts := ts) (c := c) (ev_get rfl) (ev_get rfl) (hlt c hc))) (ev_ix (ev_ix (ev_get (d := papD v) rfl) (ev_get (d := nD c) rfl) rfl (atI_map (f := rowD) hcv)) (ev_int (i := 0)) rfl rfl)))
      have t3 := rt_val (ev_neNil q3 rfl shp_nat_mem)
      have e2 : ((sm.filter fun c => decide (held - upOf ts c + intAt (bds v) c < bd)).map nD).isEmpty = shownB ts (bds v) i sm := by
        rw [e]
        have h := filter_isEmpty sm fun c => !decide (held - upOf ts c + intAt (bds v) c < bd)
        simp only [Bool.not_not] at h
        exact h
      rw [e2] at t3
      refine ⟨U (some (.dat (.int held))) none, by cases a <;> rfl, ?_⟩
      cases hsh : shownB ts (bds v) i sm with
      | true =>
        rw [hsh] at t3
        exact ⟨(then_nx g1).trans ((then_nx ((st_if t1).trans rfl)).trans ((st_if t2).trans ((then_nx g2).trans ((st_if t3).trans rfl)))), some (nD i), some (.int bd), some (natsD sm), some (.int held), rfl⟩
      | false =>
        rw [hsh] at t3
        exact (then_nx g1).trans ((then_nx ((st_if t1).trans rfl)).trans ((st_if t2).trans ((then_nx g2).trans ((st_if t3).trans rfl))))
  have it : Rn (rGo rng1 (rAc (rC gLen (rAc (getSl 0) rA0)) rA0)) (S none none none none none) ((List.range ts.length).map nD) := it_len (k := 0) rfl (by omega)
  refine runF_dat (n := 8) (b := b_u_law_right) (es := [tksD ts, .list (belowL ts), papD v]) (s1 := s') ?_
  unfold b_u_law_right
  unfold shownAll
  cases hall : (List.range ts.length).all fun i => shownB ts (bds v) i (somAt v i) with
  | true =>
    rw [hall] at q
    exact (then_nx ((it.bind).trans q.1)).trans rfl
  | false =>
    rw [hall] at q
    exact then_rt ((it.bind).trans q)
end Den
/-! QA: _law_bent -/
namespace Den
open PySem PyProof.Rows L2 K70
theorem within_eq {α : Type} {vs : List Nat} {m : M α} {s s1 : DS} {a : α} (ok : okSlots vs s = true) (h : m s = some (.ok a s1)) (sh : shapeOk vs s s1 = true) : within vs m s = some (.ok a (restoreD s s1 vs)) := by
  unfold within
  rw [if_pos ok, h]
  simp only
  rw [if_pos sh]
theorem set_nice {ts : List Tk} {B : Int} {v : Pap} {k : Nat} {row : Int × List Nat} (hv : Nice ts B v) (hk : k < v.length) (h : 0 ≤ row.1 ∧ row.1 ≤ B + 2 ∧ row.2.Sublist (kids ts k)) : Nice ts (B + 2) (v.take k ++ [row] ++ v.drop (k + 1)) := by
  have e : v.take k ++ [row] ++ v.drop (k + 1) = v.set k row := by
    rw [List.append_assoc, List.set_eq_take_append_cons_drop, if_pos hk]
    rfl
  rw [e]
  refine ⟨by rw [List.length_set]; exact hv.len, fun i r hr => ?_⟩
  rw [List.getElem?_set] at hr
  split at hr
  · rename_i e
    subst e
    have hr : some row = some r := hr
    cases hr
    exact h
  · obtain ⟨h1, h2, h3⟩ := hv.ok i r hr
    exact ⟨h1, by omega, h3⟩
theorem run_law_bent {ts : List Tk} {v : Pap} {B : Int} (xs : List Int) (hn : ts.length ≤ 1000) (h0 : 0 < ts.length) (hB : 0 ≤ B) (hv : Nice ts B v) :
    ∃ (v' : Pap) (xs' : List Int), Nice ts (B + 2) v' ∧ f_u_law_bent [(true, .list (xs.map .int)), (false, tksD ts), (false, .list (belowL ts)), (false, papD v)] = some (.ok (.dat (papD v')) [.list (xs'.map .int)]) := by
  have hlen := hv.len
  obtain ⟨k, hk, hkv⟩ : ∃ k : Nat, takeV xs (v.length : Int) = (k : Int) ∧ k < v.length := by
    obtain ⟨h1, h2⟩ := takeV_bd (xs := xs) (b := (v.length : Int)) (by omega)
    exact ⟨(takeV xs (v.length : Int)).toNat, by omega, by omega⟩
  have hkn : k < ts.length := by omega
  let xs1 := xs.dropLast
  let xs2 := xs1.dropLast
  let pk : Int := takeV xs1 5
  obtain ⟨r0, rB, rs⟩ := hv.ok k v[k] (List.getElem?_eq_getElem hkv)
  generalize hr : v[k] = r at r0 rB rs
  obtain ⟨bd, sm⟩ := r
  have r0 : 0 ≤ bd := r0
  have rB : bd ≤ B := rB
  have rs : sm.Sublist (kids ts k) := rs
  have hkl := kids_len ts k
  let S (xs : List Int) (a b c d e f : Option SV) : DS := [some (.lent (.list (xs.map .int))), some (.dat (tksD ts)), some (.dat (.list (belowL ts))), some (.dat (papD v)), a, b, c, d, e, f]
  let U (xs : List Int) (e f : Option SV) : DS := S xs (some (.dat (nD k))) (some (.dat (.int pk))) (some (.dat (.int bd))) (some (.dat (natsD sm))) e f
  have g1 : rPar 4 5 (rAc (rC (callD f_u_law_take [true, false]) (rAc (getSl 0) (rAc (rC gLen (rAc (getSl 3) rA0)) rA0))) (rAc (rC (callD f_u_law_take [true, false]) (rAc (getSl 0) (rAc (rI 5) rA0))) rA0)) (S xs none none none none none none) = some (.ok .nx (S xs2 (some (.dat (nD k))) (some (.dat (.int pk))) none none none none)) := by
    have l : Ev (rC gLen (rAc (getSl 3) rA0)) (S xs none none none none none none) (.int (v.length : Int)) := by
      have q := ev_len (s := S xs none none none none none none) (es := v.map rowD) (ra_cons (ev_get (k := 3) (d := papD v) rfl) ra_nil) rfl rfl
      rwa [List.length_map] at q
    have t1 := rs_take (s := S xs none none none none none none) (k := 0) (xs := xs) (sv := .lent (.list (xs.map .int))) rfl rfl rfl l (by omega)
    rw [hk] at t1
    have t2 := rs_take (s := S xs1 none none none none none none) (k := 0) (xs := xs1) (sv := .lent (.list (xs1.map .int))) (fb := rI 5) (b := 5) rfl rfl rfl ev_int (by decide)
    have q := rs_cons t1 (rs_cons (s1 := S xs2 none none none none none none) t2 ra_nil)
    unfold rPar
    rw [q.bind]
    rfl
  have g2 : rAsg (rO gIx (getSl 3) (getSl 4)) (unT 2 (gsCons (putSl 6) (gsCons (putSl 7) gsNil))) (S xs2 (some (.dat (nD k))) (some (.dat (.int pk))) none none none none) = some (.ok .nx (U xs2 none none)) := by
    have q := ev_ix (s := S xs2 (some (.dat (nD k))) (some (.dat (.int pk))) none none none none) (fa := getSl 3) (fb := getSl 4) (ev_get (d := papD v) rfl) (ev_get (d := nD k) rfl) rfl (atI_map (f := rowD) hkv)
    rw [hr] at q
    exact st_asg q rfl
  have tp := rt_val (ev_lt (s := U xs2 none none) (ev_get (k := 5) (d := .int pk) rfl) (ev_int (i := 3)))
  -- the new row
  obtain ⟨row, xs', hrow, g3⟩ : ∃ (row : Int × List Nat) (xs' : List Int), (0 ≤ row.1 ∧ row.1 ≤ B + 2 ∧ row.2.Sublist (kids ts k)) ∧ (rIf (rT (rO gLt (getSl 5) (rI 3)))
 (rAsg (rC mkT (rAc (rC gMax (rAc (rI 0) (rAc (rO gAdd (getSl 6) (rO gIx (rC mkL (rAc (rI 1) (rAc (rNeg (rI 1)) (rAc (rNeg (rI 4)) (rAc (rI 2) rA0))))) (rC (callD f_u_law_take [true, false]) (rAc (getSl 0) (rAc (rI 4) rA0))))) rA0))) (rAc (getSl 7) rA0))) (putSl 8))
 (rAsg (rC mkT (rAc (getSl 6) (rAc (rC gTuple (rAc (lcD [9] (rItems (rO gIx (getSl 2) (getSl 4))) (putSl 9) (rT (rO gEq (rC (callD f_u_law_take [true, false]) (rAc (getSl 0) (rAc (rI 2) rA0))) (rI 0))) (getSl 9)) rA0)) rA0))) (putSl 8))) (U xs2 none none) = some (.ok .nx (U xs' (some (.dat (rowD row))) none)) := by
    by_cases hp : pk < 3
    · rw [decide_eq_true hp] at tp
      obtain ⟨t1, t2⟩ := takeV_bd (xs := xs2) (b := 4) (by decide)
      have hd : ∃ dl : Int, atI [PyData.int 1, .int (-1), .int (-4), .int 2] (takeV xs2 4) = some (.int dl) ∧ dl ≤ 2 := by
        have h : takeV xs2 4 = 0 ∨ takeV xs2 4 = 1 ∨ takeV xs2 4 = 2 ∨ takeV xs2 4 = 3 := by omega
        rcases h with h | h | h | h <;> rw [h]
        · exact ⟨1, rfl, by decide⟩
        · exact ⟨-1, rfl, by decide⟩
        · exact ⟨-4, rfl, by decide⟩
        · exact ⟨2, rfl, by decide⟩
      obtain ⟨dl, hd, hd2⟩ := hd
      refine ⟨(max 0 (bd + dl), sm), xs2.dropLast, ⟨by show 0 ≤ max 0 (bd + dl); omega, by show max 0 (bd + dl) ≤ B + 2; omega, rs⟩, (st_if tp).trans ?_⟩
      rw [if_pos rfl]
      have q1 : Rn (rC mkL (rAc (rI 1) (rAc (rNeg (rI 1)) (rAc (rNeg (rI 4)) (rAc (rI 2) rA0))))) (U xs2 none none) (.new (.list [.int 1, .int (-1), .int (-4), .int 2])) := rn_lst (es := [.int 1, .int (-1), .int (-4), .int 2]) (ra_cons ev_int (ra_cons (ev_neg ev_int) (ra_cons (ev_neg ev_int) (ra_cons ev_int ra_nil)))) (show 4 ≤ 16777216 by decide)
      have q2 := rs_take (s := U xs2 none none) (k := 0) (xs := xs2) (sv := .lent (.list (xs2.map .int))) (fb := rI 4) (b := 4) rfl rfl rfl ev_int (by decide)
      have q3 : Rs (rO gIx (rC mkL (rAc (rI 1) (rAc (rNeg (rI 1)) (rAc (rNeg (rI 4)) (rAc (rI 2) rA0))))) (rC (callD f_u_law_take [true, false]) (rAc (getSl 0) (rAc (rI 4) rA0)))) (U xs2 none none) (.dat (.int dl)) (U xs2.dropLast none none) :=
        rs_o q1.rs q2 (by
          have z : Ev (rO gIx (pure (.new (.list [.int 1, .int (-1), .int (-4), .int 2]))) (pure (.dat (.int (takeV xs2 4))))) (U xs2.dropLast none none) (.int dl) := rn_ix (r := .new (.list [.int 1, .int (-1), .int (-4), .int 2])) (r' := .dat (.int (takeV xs2 4))) rfl rfl rfl rfl rfl hd
          exact z)
      have q4 := rs_add (fa := getSl 6) (Rn.rs (s := U xs2 none none) (ev_get (d := .int bd) rfl)) q3
      have q5 := rs_c (g := gMax) (rs_cons (Rn.rs (s := U xs2 none none) (ev_int (i := 0))) (rs_cons q4 (ra_nil (s := U xs2.dropLast none none)))) (z := .dat (.int (max 0 (bd + dl)))) (by
        have z : Ev (rC gMax (pure [.dat (.int 0), .dat (.int (bd + dl))])) (U xs2.dropLast none none) (.int (max 0 (bd + dl))) := ev_max2 rfl
        exact z)
      exact st_asgS (rs_tup (es := [.int (max 0 (bd + dl)), natsD sm]) (rs_cons q5 (rs_cons (Rn.rs (ev_get rfl)) (ra_nil (s := U xs2.dropLast none none)))) (show 2 ≤ 16777216 by decide)) rfl
    · rw [decide_eq_false hp] at tp
      have loop : ∀ (l acc : List Nat) (xs : List Int) (f : Option D), acc.length + l.length ≤ 1000 → ∃ (l' : List Nat) (xs' : List Int) (f' : Option D), l'.Sublist l ∧ lcLoop [9] (putSl 9) (rT (rO gEq (rC (callD f_u_law_take [true, false]) (rAc (getSl 0) (rAc (rI 2) rA0))) (rI 0))) (getSl 9) (l.map nD) (acc.map nD) (U xs none (f.map .dat)) = some (.ok ((acc ++ l').map nD) (U xs' none (f'.map .dat))) := by
        intro l
        induction l with
        | nil =>
          intro acc xs f _
          refine ⟨[], xs, f, List.Sublist.refl _, ?_⟩
          rw [List.append_nil]
          rfl
        | cons c l ih =>
          intro acc xs f hl
          rw [List.length_cons] at hl
          have t := rs_take (s := U xs none (some (.dat (nD c)))) (k := 0) (xs := xs) (sv := .lent (.list (xs.map .int))) (fb := rI 2) (b := 2) rfl rfl rfl ev_int (by decide)
          have t2 : Rs (rT (rO gEq (rC (callD f_u_law_take [true, false]) (rAc (getSl 0) (rAc (rI 2) rA0))) (rI 0))) (U xs none (some (.dat (nD c)))) (decide (takeV xs 2 = 0)) (U xs.dropLast none (some (.dat (nD c)))) :=
            rs_T (rs_o t (Rn.rs ev_int) (by
              have z : Ev (rO gEq (pure (.dat (.int (takeV xs 2)))) (pure (.dat (.int 0)))) (U xs.dropLast none (some (.dat (nD c)))) (.bool (PyData.eqv (.int (takeV xs 2)) (.int 0))) := rn_eq (r := .dat (.int (takeV xs 2))) (r' := .dat (.int 0)) rfl rfl rfl rfl rfl rfl
              exact z))
          rw [List.map_cons]
          unfold lcLoop
          rw [bind_ok (run_wipe [9] _), bind_ok (m := putSl 9 (.dat (nD c))) (a := ()) (s' := U xs none (some (.dat (nD c)))) (by cases f <;> rfl), t2.bind]
          by_cases hz : takeV xs 2 = 0
          · obtain ⟨l', xs', f', h1, h2⟩ := ih (acc ++ [c]) xs.dropLast (some (nD c)) (by rw [List.length_append]; show acc.length + 1 + _ ≤ _; omega)
            refine ⟨c :: l', xs', f', h1.cons_cons c, ?_⟩
            rw [decide_eq_true hz, if_pos rfl, bind_ok (m := getSl 9) (a := .dat (nD c)) (s' := U xs.dropLast none (some (.dat (nD c)))) rfl, bind_ok (m := frz _) (a := nD c) (s' := U xs.dropLast none (some (.dat (nD c)))) rfl, bind_ok (m := lenOk _) (a := ()) (s' := U xs.dropLast none (some (.dat (nD c)))) (by
              unfold lenOk
              rw [run_need, if_pos (decide_eq_true (by rw [List.length_map]; omega))])]
            have e : acc.map nD ++ [nD c] = (acc ++ [c]).map nD := (List.map_append (f := nD) (l₁ := acc) (l₂ := [c])).symm
            rw [e]
            refine h2.trans ?_
            rw [List.append_assoc]
            rfl
          · obtain ⟨l', xs', f', h1, h2⟩ := ih acc xs.dropLast (some (nD c)) (by omega)
            refine ⟨l', xs', f', h1.cons c, ?_⟩
            rw [decide_eq_false hz, if_neg (by simp)]
            exact h2
      obtain ⟨l', xs', f', h1, h2⟩ := loop (kids ts k) [] xs2 none (by rw [List.length_nil]; omega)
      refine ⟨(bd, l'), xs', ⟨r0, by show bd ≤ B + 2; omega, h1⟩, (st_if tp).trans ?_⟩
      rw [if_neg (by simp)]
      have it : Rn (rItems (rO gIx (getSl 2) (getSl 4))) (U xs2 none none) ((kids ts k).map nD) := it_seq (ev_kids (ts := ts) (i := k) (ev_get (d := .list (belowL ts)) rfl) rfl (ev_get rfl) hkn) rfl
      have q1 : Rs (lcD [9] (rItems (rO gIx (getSl 2) (getSl 4))) (putSl 9) (rT (rO gEq (rC (callD f_u_law_take [true, false]) (rAc (getSl 0) (rAc (rI 2) rA0))) (rI 0))) (getSl 9)) (U xs2 none none) (.new (.list (l'.map nD))) (U xs' none none) := by
        unfold Rs lcD
        rw [it.bind]
        have w : within [9] (lcLoop [9] (putSl 9) (rT (rO gEq (rC (callD f_u_law_take [true, false]) (rAc (getSl 0) (rAc (rI 2) rA0))) (rI 0))) (getSl 9) ((kids ts k).map nD) []) (U xs2 none none) = some (.ok (l'.map nD) (U xs' none none)) := by
          refine (within_eq (s1 := U xs' none (f'.map .dat)) rfl h2 (by cases f' <;> rfl)).trans ?_
          cases f' <;> rfl
        rw [bind_ok w]
        rfl
      have q2 := rs_c (g := gTuple) (rs_cons q1 (ra_nil (s := U xs' none none))) (z := .dat (natsD l')) rfl
      exact st_asgS (rs_tup (es := [.int bd, natsD l']) (rs_cons (Rn.rs (ev_get rfl)) (rs_cons q2 (ra_nil (s := U xs' none none)))) (show 2 ≤ 16777216 by decide)) rfl
  refine ⟨v.take k ++ [row] ++ v.drop (k + 1), xs', set_nice hv hkv hrow, ?_⟩
  let Z : DS := U xs' (some (.dat (rowD row))) none
  have q : b_u_law_bent (S xs none none none none none none) = some (.ok (.rt (.dat (papD (v.take k ++ [row] ++ v.drop (k + 1))))) Z) := by
    unfold b_u_law_bent
    refine (then_nx g1).trans ((then_nx g2).trans ((then_nx g3).trans (st_ret ?_)))
    have c1 := ev_cutTo (s := Z) (fa := getSl 3) (fb := getSl 4) (es := v.map rowD) (k := k) (ev_get rfl) (ev_get rfl) (by rw [List.length_map]; omega)
    have c2 := ev_cutFrom (s := Z) (fa := getSl 3) (fb := rO gAdd (getSl 4) (rI 1)) (es := v.map rowD) (k := k + 1) (ev_get rfl) (ev_add (ev_get (d := nD k) rfl) ev_int) (by rw [List.length_map]; omega)
    have c3 := ev_addT (ev_addT c1 (ev_tup (es := [rowD row]) (ra_cons (ev_get (k := 8) rfl) ra_nil) (show 1 ≤ 16777216 by decide)) (by rw [List.length_take, List.length_map]; show _ + 1 ≤ _; omega)) c2 (by rw [List.length_append, List.length_take, List.length_drop, List.length_map]; show _ + 1 + _ ≤ _; omega)
    have e : (v.map rowD).take k ++ [rowD row] ++ (v.map rowD).drop (k + 1) = (v.take k ++ [row] ++ v.drop (k + 1)).map rowD := by
      rw [List.map_append, List.map_append, List.map_take, List.map_drop]
      rfl
    rw [e] at c3
    exact c3
  unfold f_u_law_bent runF
  rw [show ds0 10 [(true, .list (xs.map .int)), (false, tksD ts), (false, .list (belowL ts)), (false, papD v)] = S xs none none none none none none from rfl, q]
  rfl
end Den
/-! QB: what the law's data keep -/
namespace Den
open PySem PyProof.Rows L2 K70
section
variable {ts : List Tk}
theorem GoodT.at (g : GoodT ts) {i : Nat} (h : i < ts.length) : TkOk ts.length i ts[i] := g.ok i _ (List.getElem?_eq_getElem h)
theorem GoodT.par (g : GoodT ts) {c q : Nat} (h : parOf ts c = some q) : c < q ∧ q < ts.length := by
  unfold parOf at h
  cases hc : ts[c]? with
  | none => rw [hc] at h; cases h
  | some t =>
    rw [hc] at h
    exact (g.ok c t hc).1 q h
theorem GoodT.parOk (g : GoodT ts) : ParOk ts := fun c q h => (g.par h).2
theorem GoodT.less (g : GoodT ts) : KidsLess ts := fun c q h => (g.par h).1
theorem GoodT.upOk (g : GoodT ts) : UpOk ts := fun c => by
  unfold upOf
  split
  · rename_i t h
    exact (g.ok c t h).2.1
  · exact Int.le_refl 0
theorem GoodT.upLe (g : GoodT ts) (c : Nat) : upOf ts c ≤ 15 := by
  unfold upOf
  split
  · rename_i t h
    have := (g.ok c t h).2
    omega
  · decide
theorem GoodT.fr (g : GoodT ts) {i : Nat} (h : i < ts.length) : 1 ≤ frOf ts i ∧ frOf ts i ≤ 15 := by
  rw [fr_at h]
  have := (g.at h).2
  omega
/-! ### the peaks by themselves -/
theorem pkTo_at : ∀ (m c : Nat), c < m → intAt (pkTo ts m) c = pkOf ts (pkTo ts c) c
  | 0, c, h => by omega
  | m + 1, c, h => by
    show intAt (pkTo ts m ++ [pkOf ts (pkTo ts m) m]) c = _
    unfold intAt
    by_cases e : c < m
    · rw [List.getElem?_append_left (by rw [pkTo_len]; exact e)]
      exact pkTo_at m c e
    · have e : c = m := by omega
      subst e
      rw [List.getElem?_append_right (by rw [pkTo_len]; exact Nat.le_refl _), pkTo_len, Nat.sub_self]
      rfl
theorem mostFrom_congr {u p p' : Nat → Int} : ∀ (l : List Nat) (h m : Int), (∀ c ∈ l, p c = p' c) → mostFrom u p h m l = mostFrom u p' h m l
  | [], _, _, _ => rfl
  | c :: l, h, m, e => by
    show mostFrom u p (h + u c) (max m (h + p c)) l = mostFrom u p' (h + u c) (max m (h + p' c)) l
    rw [e c List.mem_cons_self, mostFrom_congr l _ _ fun x hx => e x (List.mem_cons_of_mem _ hx)]
theorem turn_congr {u p p' : Nat → Int} {cs : List Nat} (e : ∀ c ∈ cs, p c = p' c) : turnOf u p cs = turnOf u p' cs := by
  have h := List.map_mergeSort (r := fun a b => leP (u a - p a, (a : Int)) (u b - p b, (b : Int))) (s := fun a b => leP (u a - p' a, (a : Int)) (u b - p' b, (b : Int))) (f := fun x : Nat => x) (l := cs) fun a ha b hb => by
    rw [e a ha, e b hb]
  rw [List.map_id', List.map_id'] at h
  exact h
theorem pk_eq (g : GoodT ts) {i : Nat} (hi : i < ts.length) : intAt (pks ts) i = costOf (upOf ts) (intAt (pks ts)) (frOf ts i) (turnOf (upOf ts) (intAt (pks ts)) (kids ts i)) := by
  have e1 := pkTo_at (ts := ts) ts.length i hi
  have e2 : ∀ c ∈ kids ts i, intAt (pkTo ts i) c = intAt (pks ts) c := fun c hc => by
    have h1 := g.less c i (mem_kids hc)
    rw [pkTo_at i c h1]
    exact (pkTo_at ts.length c (by omega)).symm
  show intAt (pkTo ts ts.length) i = _
  rw [e1]
  unfold pkOf
  rw [turn_congr e2]
  unfold costOf
  rw [mostFrom_congr _ _ _ fun c hc => e2 c ((turn_perm _ _ _).mem_iff.mp hc)]
theorem sum_le {u : Nat → Int} {B : Int} : ∀ l : List Nat, (∀ c, u c ≤ B) → sumOf u l ≤ B * l.length
  | [], _ => by
    show (0 : Int) ≤ B * (0 : Nat)
    simp
  | c :: l, h => by
    have h1 := h c
    have h2 := sum_le l h
    show u c + sumOf u l ≤ B * ((l.length + 1 : Nat) : Int)
    rw [Int.natCast_add, Int.mul_add]
    simp only [Int.natCast_one, Int.mul_one]
    omega
theorem most_le {u p : Nat → Int} {B : Int} (hu : ∀ c, 0 ≤ u c) : ∀ (l : List Nat) (h m : Int), m ≤ h + sumOf u l + B → (∀ c ∈ l, p c ≤ B) → mostFrom u p h m l ≤ h + sumOf u l + B
  | [], h, m, hm, _ => hm
  | c :: l, h, m, hm, hp => by
    have h1 := hp c List.mem_cons_self
    have h2 := sumOf_nonneg hu l
    have h3 := hu c
    have hm : m ≤ h + (u c + sumOf u l) + B := hm
    have ih := most_le (p := p) hu l (h + u c) (max m (h + p c)) (by omega) fun x hx => hp x (List.mem_cons_of_mem _ hx)
    show mostFrom u p (h + u c) (max m (h + p c)) l ≤ h + (u c + sumOf u l) + B
    omega
theorem pk_bd (g : GoodT ts) : ∀ i, i < ts.length → 1 ≤ intAt (pks ts) i ∧ intAt (pks ts) i ≤ 200 * ((i : Int) + 1) := by
  intro i
  induction i using Nat.strongRecOn with
  | ind i ih =>
    intro hi
    have hf := g.fr hi
    have hl : (turnOf (upOf ts) (intAt (pks ts)) (kids ts i)).length ≤ 8 := by
      rw [(turn_perm _ _ _).length_eq]
      have := kids_len ts i
      have := g.len
      omega
    have hs := sum_le (B := 15) (turnOf (upOf ts) (intAt (pks ts)) (kids ts i)) g.upLe
    have h0 := sumOf_nonneg g.upOk (turnOf (upOf ts) (intAt (pks ts)) (kids ts i))
    have hm := most_le (p := intAt (pks ts)) (B := 200 * (i : Int)) g.upOk (turnOf (upOf ts) (intAt (pks ts)) (kids ts i)) 0 0 (by omega) fun c hc => by
      have hc := (turn_perm _ _ _).mem_iff.mp hc
      have h1 := g.less c i (mem_kids hc)
      have h2 := (ih c h1 (kids_lt hc)).2
      omega
    rw [pk_eq g hi]
    unfold costOf
    omega
/-! ### the told paper -/
theorem bds_told : bds (told ts) = pks ts := by
  apply List.ext_getElem?
  intro j
  unfold bds told
  by_cases hj : j < ts.length
  · have hj2 : j < (pks ts).length := by rw [pks_len]; exact hj
    rw [List.getElem?_map, List.getElem?_map, List.getElem?_range hj, List.getElem?_eq_getElem hj2]
    show some (intAt (pks ts) j) = some _
    unfold intAt
    rw [List.getElem?_eq_getElem hj2]
    rfl
  · rw [List.getElem?_eq_none (by simp; omega), List.getElem?_eq_none (by rw [pks_len]; omega)]
theorem som_told {i : Nat} (hi : i < ts.length) : somAt (told ts) i = toldV ts (pks ts) i (kids ts i) := by
  unfold somAt told
  rw [List.getElem?_map, List.getElem?_range hi]
  rfl
theorem sub_of_sorted : ∀ {l m : List Nat}, l.Pairwise (· < ·) → m.Pairwise (· < ·) → (∀ x ∈ l, x ∈ m) → l.Sublist m
  | [], m, _, _, _ => List.nil_sublist m
  | x :: l, [], _, _, h => by
    have := h x List.mem_cons_self
    cases this
  | x :: l, y :: m, hl, hm, h => by
    obtain ⟨l1, l2⟩ := List.pairwise_cons.mp hl
    obtain ⟨m1, m2⟩ := List.pairwise_cons.mp hm
    by_cases e : x = y
    · subst e
      refine (sub_of_sorted l2 m2 fun z hz => ?_).cons_cons x
      rcases List.mem_cons.mp (h z (List.mem_cons_of_mem _ hz)) with e | e
      · have := l1 z hz
        omega
      · exact e
    · refine (sub_of_sorted hl m2 fun z hz => ?_).cons y
      rcases List.mem_cons.mp (h z hz) with e2 | e2
      · subst e2
        rcases List.mem_cons.mp (h x List.mem_cons_self) with e3 | e3
        · exact absurd e3 e
        · have h1 := m1 x e3
          rcases List.mem_cons.mp hz with e4 | e4
          · exact absurd e4.symm e
          · have := l1 z e4
            omega
      · exact e2
theorem sortN_sorted {l : List Nat} (nd : l.Nodup) : (sortN l).Pairwise (· < ·) := by
  have h1 := List.pairwise_mergeSort (le := fun a b : Nat => decide (a ≤ b)) (fun a b c h1 h2 => by simp only [decide_eq_true_eq] at *; omega) (fun a b => by simp only [Bool.or_eq_true, decide_eq_true_eq]; omega) l
  have h2 : (sortN l).Nodup := (sortN_perm l).nodup_iff.mpr nd
  have h3 : (sortN l).Pairwise fun a b => decide (a ≤ b) = true ∧ a ≠ b := List.pairwise_and_iff.mpr ⟨h1, h2⟩
  exact h3.imp fun ⟨h1, h2⟩ => by
    have := of_decide_eq_true h1
    omega
theorem told_cases (g : GoodT ts) {i : Nat} (hi : i < ts.length) :
    (toldV ts (pks ts) i (kids ts i) = [] ∧ intAt (pks ts) i ≤ ((kids ts i).map (upOf ts)).sum + frOf ts i) ∨
    (∃ s, toldV ts (pks ts) i (kids ts i) = sortN s ∧ s ≠ [] ∧ s.Nodup ∧ (∀ x ∈ s, x ∈ kids ts i) ∧ ∀ x ∈ s, intAt (pks ts) i ≤ sumOf (upOf ts) s - upOf ts x + intAt (pks ts) x) := by
  have hf := g.fr hi
  generalize ht : turnOf (upOf ts) (intAt (pks ts)) (kids ts i) = t
  have pm : t.Perm (kids ts i) := by rw [← ht]; exact turn_perm _ _ _
  have so : t.Pairwise fun a b => upOf ts a - intAt (pks ts) a ≤ upOf ts b - intAt (pks ts) b := by rw [← ht]; exact turn_sorted _ _ _
  have hpk := pk_eq g hi
  rw [ht] at hpk
  have hsum : sumOf (upOf ts) t = ((kids ts i).map (upOf ts)).sum := by
    rw [sumOf_map]
    exact sumOf_perm _ pm
  generalize hg : toldGo (upOf ts) (intAt (pks ts)) 0 [] (-1) [] t = w
  obtain ⟨best, s⟩ := w
  have hT : toldV ts (pks ts) i (kids ts i) = if best > sumOf (upOf ts) t + frOf ts i then sortN s else [] := by
    unfold toldV
    rw [ht, hg]
  by_cases hb : best > sumOf (upOf ts) t + frOf ts i
  · right
    obtain ⟨h1, h2, h3, b, h4⟩ := told_right g.upOk so hg hb (by omega)
    have hnd : t.Nodup := pm.nodup_iff.mpr (kids_nodup ts i)
    refine ⟨s, by rw [hT, if_pos hb], h2, ?_, fun x hx => pm.mem_iff.mp (by rw [h4]; exact List.mem_append_left _ hx), fun x hx => ?_⟩
    · rw [h4] at hnd
      exact (List.nodup_append.mp hnd).1
    · have := h3 x hx
      omega
  · left
    have h1 := told_none (fr := frOf ts i) g.upOk hg (by omega) (by omega)
    refine ⟨by rw [hT, if_neg hb], ?_⟩
    rw [hpk, h1, hsum]
    exact Int.le_refl _
theorem told_sub (g : GoodT ts) {i : Nat} (hi : i < ts.length) : (toldV ts (pks ts) i (kids ts i)).Sublist (kids ts i) := by
  rcases told_cases g hi with ⟨h, _⟩ | ⟨s, h, _, nd, hm, _⟩
  · rw [h]
    exact List.nil_sublist _
  · rw [h]
    exact sub_of_sorted (sortN_sorted nd) (kids_sorted ts i) fun x hx => hm x ((sortN_perm s).mem_iff.mp hx)
theorem told_nice (g : GoodT ts) : Nice ts 1600 (told ts) := by
  refine ⟨by unfold told; rw [List.length_map, List.length_range], fun i r h => ?_⟩
  have hi : i < ts.length := by
    have := (List.getElem?_eq_some_iff.mp h).1
    unfold told at this
    rwa [List.length_map, List.length_range] at this
  unfold told at h
  rw [List.getElem?_map, List.getElem?_range hi] at h
  have h : some (intAt (pks ts) i, toldV ts (pks ts) i (kids ts i)) = some r := h
  cases h
  have h1 := pk_bd g i hi
  have h2 := g.len
  exact ⟨by show 0 ≤ intAt (pks ts) i; omega, by show intAt (pks ts) i ≤ 1600; omega, told_sub g hi⟩
theorem minL_ge {ns : List Int} {b : Int} (h : ns ≠ []) (h2 : ∀ x ∈ ns, b ≤ x) : b ≤ minL ns := h2 _ (minL_spec h).1
theorem sortN_ne {s : List Nat} (h : s ≠ []) : sortN s ≠ [] := fun e => h (by
  have := (sortN_perm s).length_eq
  rw [e] at this
  exact List.eq_nil_of_length_eq_zero this.symm)
theorem told_shown (g : GoodT ts) : shownAll ts (told ts) = true := by
  unfold shownAll
  rw [List.all_eq_true]
  intro i hi
  have hi := List.mem_range.mp hi
  rw [bds_told, som_told hi]
  unfold shownB
  rcases told_cases g hi with ⟨h, h2⟩ | ⟨s, h, ne, nd, hm, h2⟩
  · rw [if_pos h]
    exact decide_eq_true h2
  · rw [h, if_neg (sortN_ne ne)]
    refine decide_eq_true (minL_ge (by simpa using sortN_ne ne) fun y hy => ?_)
    obtain ⟨c, hc, rfl⟩ := List.mem_map.mp hy
    have hc := (sortN_perm s).mem_iff.mp hc
    have e : ((sortN s).map (upOf ts)).sum = sumOf (upOf ts) s := by
      rw [sumOf_map]
      exact sumOf_perm _ (sortN_perm s)
    rw [e]
    exact h2 c hc
/-! ### right papers tell no more -/
theorem nice_som {B : Int} {v : Pap} (hv : Nice ts B v) {i : Nat} (hi : i < ts.length) : (somAt v i).Sublist (kids ts i) := by
  have hiv : i < v.length := by rw [hv.len]; exact hi
  have h := hv.ok i v[i] (List.getElem?_eq_getElem hiv)
  unfold somAt
  rw [List.getElem?_eq_getElem hiv]
  exact h.2.2
theorem right_bd (g : GoodT ts) {B : Int} {v : Pap} (hv : Nice ts B v) (hs : shownAll ts v = true) : ∀ i, i < ts.length → intAt (bds v) i ≤ intAt (pks ts) i := by
  intro i
  induction i using Nat.strongRecOn with
  | ind i ih =>
    intro hi
    have h := List.all_eq_true.mp hs i (List.mem_range.mpr hi)
    have hsub := nice_som hv hi
    have hso := sub_sorted hsub
    rw [pk_eq g hi]
    refine right_le (bs := intAt (bds v)) g.upOk (nodup_of hso) (fun x hx => (turn_perm _ _ _).mem_iff.mpr (hsub.subset hx)) (fun x hx => ih x (g.less x i (mem_kids (hsub.subset hx))) (kids_lt (hsub.subset hx))) (fun e => ?_) fun ne x hx => ?_
    · unfold shownB at h
      rw [if_pos e] at h
      have h := of_decide_eq_true h
      have e2 : sumOf (upOf ts) (turnOf (upOf ts) (intAt (pks ts)) (kids ts i)) = ((kids ts i).map (upOf ts)).sum := by
        rw [sumOf_map]
        exact sumOf_perm _ (turn_perm _ _ _)
      omega
    · unfold shownB at h
      rw [if_neg ne] at h
      have h := of_decide_eq_true h
      have h2 := (minL_spec (ns := (somAt v i).map fun c => ((somAt v i).map (upOf ts)).sum - upOf ts c + intAt (bds v) c) (by simpa using ne)).2 _ (List.mem_map.mpr ⟨x, hx, rfl⟩)
      rw [sumOf_map] at h2
      rw [sumOf_map] at h
      omega
theorem last_top (g : GoodT ts) (ne : ts ≠ []) : topsOf ts ≠ [] := fun e => by
  have hl : 0 < ts.length := List.length_pos_iff.mpr ne
  have h : ts.length - 1 ∈ topsOf ts := by
    refine List.mem_filter.mpr ⟨List.mem_range.mpr (by omega), ?_⟩
    cases h : parOf ts (ts.length - 1) with
    | none => rfl
    | some q =>
      have := g.par h
      omega
  rw [e] at h
  cases h
theorem top_le (g : GoodT ts) {B : Int} {v : Pap} (hv : Nice ts B v) (hs : shownAll ts v = true) : topMost ts (bds v) ≤ topMost ts (pks ts) := by
  unfold topMost
  by_cases e : topsOf ts = []
  · rw [if_pos e, if_pos e]
    exact Int.le_refl 0
  · rw [if_neg e, if_neg e]
    obtain ⟨h1, _⟩ := maxL_spec (ns := (topsOf ts).map (intAt (bds v))) (by simpa using e)
    obtain ⟨_, h2⟩ := maxL_spec (ns := (topsOf ts).map (intAt (pks ts))) (by simpa using e)
    obtain ⟨c, hc, h3⟩ := List.mem_map.mp h1
    have h4 := h2 _ (List.mem_map.mpr ⟨c, hc, rfl⟩)
    have h5 := right_bd g hv hs c (tops_lt hc)
    omega
/-! ### nice papers have right rows -/
theorem areSome_of {i : Nat} {sm : List Nat} (hn : ts.length ≤ 8) (h : sm.Sublist (kids ts i)) : areSome (kids ts i) (natsD sm) = true := by
  have hso := sub_sorted h
  show ((sm.map nD).all (okOne (kids ts i)) && (upFrom 1 ((sm.map nD).length - 1)).all (ltAt (sm.map nD))) = true
  rw [Bool.and_eq_true]
  constructor
  · rw [List.all_eq_true]
    intro d hd
    obtain ⟨c, hc, rfl⟩ := List.mem_map.mp hd
    have hk := h.subset hc
    have hl := kids_lt hk
    unfold okOne
    rw [inD_of hk, Bool.and_true]
    show (decide ((0 : Int) ≤ (c : Int)) && decide ((c : Int) ≤ 60)) = true
    rw [decide_eq_true (by omega), decide_eq_true (by omega)]
    rfl
  · rw [List.all_eq_true]
    intro d hd
    obtain ⟨k, hk, rfl⟩ := List.mem_map.mp hd
    have hk := List.mem_range.mp hk
    rw [List.length_map] at hk
    unfold ltAt
    simp only
    rw [show ((1 : Int) + (k : Int)).toNat - 1 = k by omega, show ((1 : Int) + (k : Int)).toNat = k + 1 by omega, List.getElem?_map, List.getElem?_map, List.getElem?_eq_getElem (show k < sm.length by omega), List.getElem?_eq_getElem (show k + 1 < sm.length by omega)]
    have := List.pairwise_iff_getElem.mp hso k (k + 1) (by omega) (by omega) (by omega)
    show decide ((sm[k] : Int) < (sm[k + 1] : Int)) = true
    exact decide_eq_true (by omega)
theorem nice_rows {B : Int} {v : Pap} (hn : ts.length ≤ 8) (hB : B ≤ 61000000) (hv : Nice ts B v) : (List.range ts.length).all (fun i => rowOk ts i (((v.map rowD)[i]?).getD .none)) = true := by
  rw [List.all_eq_true]
  intro i hi
  have hi := List.mem_range.mp hi
  have hiv : i < v.length := by rw [hv.len]; exact hi
  obtain ⟨h1, h2, h3⟩ := hv.ok i v[i] (List.getElem?_eq_getElem hiv)
  rw [List.getElem?_map, List.getElem?_eq_getElem hiv]
  show (isNum (.int v[i].1) 0 61000000 && areSome (kids ts i) (natsD v[i].2)) = true
  rw [areSome_of hn h3, Bool.and_true]
  show (decide (0 ≤ v[i].1) && decide (v[i].1 ≤ 61000000)) = true
  rw [decide_eq_true h1, decide_eq_true (by omega)]
  rfl
theorem nice_paper (g : GoodT ts) {B : Int} {v : Pap} (hB : B ≤ 61000000) (hv : Nice ts B v) : f_is_paper [(false, tksD ts), (false, papD v)] = some (.ok (.dat (.bool (shownAll ts v))) []) := by
  have hn := g.len
  refine run_is_paper (by omega) g.parOk hv.len (fun r hr => ?_) (nice_rows hn hB hv)
  obtain ⟨i, hi, rfl⟩ := List.mem_iff_getElem.mp hr
  have h := (hv.ok i v[i] (List.getElem?_eq_getElem hi)).2.2.length_le
  have := kids_len ts i
  omega
theorem nice_proves (g : GoodT ts) {B : Int} {v : Pap} (k : Int) (hB : B ≤ 61000000) (hv : Nice ts B v) : f_proves_least [(false, tksD ts), (false, .int k), (false, papD v)] = some (.ok (.dat (.bool (shownAll ts v && decide (topMost ts (bds v) = k)))) []) := by
  have hn := g.len
  exact run_proves (by omega) hv.len (nice_paper g hB hv)
end
end Den
/-! QC: values that are no papers; one turn of the law -/
namespace Den
open PySem PyProof.Rows L2 K70
section
variable {ts : List Tk}
theorem odd_row (g : GoodT ts) {B : Int} {v : Pap} (hv : Nice ts B v) {d : D} (h0 : 0 < ts.length) (hd : rowOk ts 0 d = false) (hw : ∀ b es, d = .tuple [b, .tuple es] → es.length < 16777216) : f_is_paper [(false, tksD ts), (false, .tuple ([d] ++ (v.map rowD).drop 1))] = some (.ok (.dat (.bool false)) []) := by
  have hn := g.len
  refine run_is_paper_row (by omega) g.parOk ?_ (fun x hx b es e => ?_) ?_
  · rw [List.length_append, List.length_drop, List.length_map, hv.len]
    show 1 + _ = _
    omega
  · rcases List.mem_append.mp hx with hx | hx
    · rw [List.mem_singleton.mp hx] at e
      exact hw b es e
    · obtain ⟨r, hr, rfl⟩ := List.mem_map.mp (List.mem_of_mem_drop hx)
      obtain ⟨i, hi, rfl⟩ := List.mem_iff_getElem.mp hr
      have h := (hv.ok i v[i] (List.getElem?_eq_getElem hi)).2.2.length_le
      have := kids_len ts i
      have e : (PyData.tuple [.int v[i].1, natsD v[i].2]) = .tuple [b, .tuple es] := e
      injection e with e
      injection e with _ e
      injection e with e _
      injection e with e
      rw [← e, List.length_map]
      omega
  · rw [List.all_eq_false]
    refine ⟨0, List.mem_range.mpr h0, ?_⟩
    show ¬ rowOk ts 0 d = true
    rw [hd]
    simp
theorem kids0 (g : GoodT ts) : kids ts 0 = [] := by
  unfold kids
  rw [List.filter_eq_nil_iff]
  intro c _ h
  have h : parOf ts c = some 0 := by simpa using h
  have := g.less c 0 h
  omega
theorem areSome_none {cs : List Nat} {d : D} (h : ∀ es, d ≠ .tuple es) : areSome cs d = false := by
  cases d with
  | tuple es => exact absurd rfl (h es)
  | _ => rfl
theorem areSome_one {i c : Nat} (h : c ∉ kids ts i) : areSome (kids ts i) (natsD [c]) = false := by
  cases e : areSome (kids ts i) (natsD [c]) with
  | false => rfl
  | true => exact absurd (areSome_in e c List.mem_cons_self) h
def oddL (ts : List Tk) (v : Pap) (b : Int) (sm : List Nat) : List D :=
  let w (d : D) : D := .tuple ([d] ++ (v.map rowD).drop 1)
  [.none, .list (v.map rowD), .tuple ((v.map rowD).drop 1), .tuple (v.map rowD ++ (v.map rowD).take 1), w .none, w (.tuple [.int b]), w (.tuple [.int b, natsD sm, .int 0]), w (.list [.int b, natsD sm]), w (.tuple [.int (-1), natsD sm]), w (.tuple [.bool true, natsD sm]),
    w (.tuple [.str (toString b), natsD sm]), w (.tuple [.int b, .none]), w (.tuple [.int b, .list (sm.map nD)]), w (.tuple [.int b, natsD [0]]), w (.tuple [.int 0, natsD [ts.length]])]
theorem isNum_not {d : D} (h : ∀ i, d ≠ .int i) (l m : Int) : isNum d l m = false := by
  cases d with
  | int i => exact absurd rfl (h i)
  | _ => rfl
theorem rowOk_num {i : Nat} {b s : D} (h : isNum b 0 61000000 = false) : rowOk ts i (.tuple [b, s]) = false := by
  show (isNum b 0 61000000 && _) = false
  rw [h]
  rfl
theorem rowOk_some {i : Nat} {b s : D} (h : areSome (kids ts i) s = false) : rowOk ts i (.tuple [b, s]) = false := by
  show (_ && areSome (kids ts i) s) = false
  rw [h, Bool.and_false]
theorem odd_no (g : GoodT ts) {B : Int} {v : Pap} (hv : Nice ts B v) (h0 : 0 < ts.length) {b : Int} {sm : List Nat} (hsm : sm.length ≤ 1000) : ∀ d ∈ oddL ts v b sm, f_is_paper [(false, tksD ts), (false, d)] = some (.ok (.dat (.bool false)) []) := by
  intro d hd
  have hlen := hv.len
  have small : ∀ (x b : D) (es : List D), x = .tuple [b, .tuple es] → (∀ b' es', x = .tuple [b', .tuple es'] → es'.length ≤ 1000) → es.length < 16777216 := fun x b es e h => by
    have := h b es e
    omega
  have hs2 : ∀ (a : D) (l : List Nat), l.length ≤ 1000 → ∀ b es, (.tuple [a, natsD l] : D) = .tuple [b, .tuple es] → es.length < 16777216 := fun a l hl b es e => by
    injection e with e
    injection e with _ e
    injection e with e _
    injection e with e
    rw [← e, List.length_map]
    omega
  unfold oddL at hd
  simp only [List.mem_cons, List.not_mem_nil, or_false] at hd
  rcases hd with h | h | h | h | h | h | h | h | h | h | h | h | h | h | h <;> subst h
  · exact run_is_paper_kind fun es e => by cases e
  · exact run_is_paper_kind fun es e => by cases e
  · exact run_is_paper_len (by rw [List.length_drop, List.length_map]; omega)
  · exact run_is_paper_len (by rw [List.length_append, List.length_take, List.length_map]; omega)
  · exact odd_row g hv h0 rfl fun b es e => by cases e
  · exact odd_row g hv h0 rfl fun b es e => by cases e
  · exact odd_row g hv h0 rfl fun b es e => by cases e
  · exact odd_row g hv h0 rfl fun b es e => by cases e
  · exact odd_row g hv h0 (rowOk_num rfl) (hs2 _ sm hsm)
  · exact odd_row g hv h0 (rowOk_num rfl) (hs2 _ sm hsm)
  · exact odd_row g hv h0 (rowOk_num rfl) (hs2 _ sm hsm)
  · exact odd_row g hv h0 (rowOk_some rfl) fun b es e => by cases e
  · exact odd_row g hv h0 (rowOk_some rfl) fun b es e => by cases e
  · exact odd_row g hv h0 (rowOk_some (areSome_one (by rw [kids0 g]; simp))) (hs2 _ [0] (by decide))
  · exact odd_row g hv h0 (rowOk_some (areSome_one (by rw [kids0 g]; simp))) (hs2 _ [ts.length] (show 1 ≤ 1000 by decide))
/-! ### more steps -/
theorem rs_go {s s1 : DS} {g : List R → M (List D)} {fr : M (List R)} {rs : List R} {items : List D} (h : Rs fr s rs s1) (q : Rn (rGo g (pure rs)) s1 items) : Rs (rGo g fr) s items s1 := by
  unfold Rs rGo
  rw [h.bind]
  exact q
theorem st_setFS {s s1 s2 : DS} {f : M R} {d : D} {i : Nat} (h : Rs f s (.dat d) s1) (hg : putSl i (.dat d) s1 = some (.ok () s2)) : setF i f s = some (.ok .nx s2) := by
  unfold setF
  rw [h.bind]
  refine (bind_ok (a := d) rfl).trans ?_
  rw [run_bind, hg]
  rfl
theorem shp_tk (t : Tk) : shp 1 (tkD t) := shp_tup fun e he => by
  rcases List.mem_cons.mp he with rfl | he
  · cases t.par with
    | none => exact shp_none
    | some q => exact shp_int
  · rcases List.mem_cons.mp he with rfl | he
    · exact shp_int
    · rcases List.mem_cons.mp he with rfl | he
      · exact shp_int
      · cases he
/-- the state of the law, its draws apart -/
def LS (sc : D) (xs : List Int) (ts : List Tk) (l : Int) (tu va st go sa ro od : Option SV) : DS :=
  [some (.dat sc), some (.own (.list (xs.map .int))), some (.dat (tksD ts)), some (.dat (.list (belowL ts))), some (.dat (.list ((pks ts).map .int))), some (.dat (papD (told ts))), some (.dat (.list ((topsOf ts).map nD))), some (.dat (.int l)), tu, va, st, go, sa, ro, od, none, none, none]
def turnBody : M Fl := (thenS (rAsg (getSl 5) (putSl 9))
 (thenS (rFor (rGo rng1 (rAc (rO gAdd (rI 1) (rC (callD f_u_law_take [true, false]) (rAc (getSl 1) (rAc (rI 3) rA0)))) rA0)) (putSl 10)
 (setF 9 (rC (callD f_u_law_bent [true, false, false, false]) (rAc (getSl 1) (rAc (getSl 2) (rAc (getSl 3) (rAc (getSl 9) rA0)))))))
 (thenS (setF 11 (rC (callD f_u_law_right [false, false, false]) (rAc (getSl 2) (rAc (getSl 3) (rAc (getSl 9) rA0)))))
 (thenS (rAsg (rC gMax (rAc (lcD [16] (rItems (getSl 6)) (putSl 16) (pure true) (rO gIx (rO gIx (getSl 9) (getSl 16)) (rI 0))) rA0)) (putSl 12))
 (thenS (rIf (orT (rNotT (rT (rC (callD (fr_u_law_alike 6) [false, false]) (rAc (rC (callD f_is_paper [false, false]) (rAc (getSl 2) (rAc (getSl 9) rA0))) (rAc (getSl 11) rA0))))) (andT (rT (getSl 11)) (rT (rO gGt (getSl 12) (getSl 7)))))
 (rRet (rB false))
 (pure .nx))
 (rIf (rNotT (rT (rC (callD (fr_u_law_alike 6) [false, false]) (rAc (rC mkL (rAc (rC (callD f_proves_least [false, false, false]) (rAc (getSl 2) (rAc (getSl 12) (rAc (getSl 9) rA0)))) (rAc (rC (callD f_proves_least [false, false, false]) (rAc (getSl 2) (rAc (getSl 7) (rAc (getSl 9) rA0)))) rA0))) (rAc (rC mkL (rAc (getSl 11) (rAc (andD (getSl 11) (rO gEq (getSl 12) (getSl 7))) rA0))) rA0)))))
 (rRet (rB false))
 (pure .nx)))))))
theorem tops_len (ts : List Tk) : (topsOf ts).length ≤ ts.length := by
  have := List.length_filter_le (fun c => (parOf ts c).isNone) (List.range ts.length)
  rw [List.length_range] at this
  exact this
theorem run_turn (g : GoodT ts) (ne : ts ≠ []) (sc : D) (xs : List Int) (tu va st go sa : Option D) :
    ∃ s', turnBody (LS sc xs ts (topMost ts (pks ts)) (tu.map .dat) (va.map .dat) (st.map .dat) (go.map .dat) (sa.map .dat) none none) = some (.ok .nx s') ∧ ∃ (xs' : List Int) (va st go sa : Option D), s' = LS sc xs' ts (topMost ts (pks ts)) (tu.map .dat) (va.map .dat) (st.map .dat) (go.map .dat) (sa.map .dat) none none := by
  have hn := g.len
  have h0 : 0 < ts.length := List.length_pos_iff.mpr ne
  let L : Int := topMost ts (pks ts)
  let S (xs : List Int) (va st go sa : Option SV) : DS := LS sc xs ts L (tu.map .dat) va st go sa none none
  have g1 : rAsg (getSl 5) (putSl 9) (S xs (va.map .dat) (st.map .dat) (go.map .dat) (sa.map .dat)) = some (.ok .nx (S xs (some (.dat (papD (told ts)))) (st.map .dat) (go.map .dat) (sa.map .dat))) := st_asg (ev_get (k := 5) (d := papD (told ts)) rfl) (by cases va <;> rfl)
  -- the value bent
  obtain ⟨m, hm, hm3⟩ : ∃ m : Nat, takeV xs 3 = (m : Int) ∧ m < 3 := by
    obtain ⟨h1, h2⟩ := takeV_bd (xs := xs) (b := 3) (by decide)
    exact ⟨(takeV xs 3).toNat, by omega, by omega⟩
  have it : Rs (rGo rng1 (rAc (rO gAdd (rI 1) (rC (callD f_u_law_take [true, false]) (rAc (getSl 1) (rAc (rI 3) rA0)))) rA0)) (S xs (some (.dat (papD (told ts)))) (st.map .dat) (go.map .dat) (sa.map .dat)) ((List.range (m + 1)).map nD) (S xs.dropLast (some (.dat (papD (told ts)))) (st.map .dat) (go.map .dat) (sa.map .dat)) := by
    have t := rs_take (s := S xs (some (.dat (papD (told ts)))) (st.map .dat) (go.map .dat) (sa.map .dat)) (k := 1) (xs := xs) (sv := .own (.list (xs.map .int))) (fb := rI 3) (b := 3) rfl rfl rfl ev_int (by decide)
    rw [hm] at t
    have t2 := rs_cons (rs_add (Rn.rs (ev_int (i := 1))) t) (ra_nil (s := S xs.dropLast (some (.dat (papD (told ts)))) (st.map .dat) (go.map .dat) (sa.map .dat)))
    have q : Rn (rGo rng1 (pure [.dat (.int ((m + 1 : Nat) : Int))])) (S xs.dropLast (some (.dat (papD (told ts)))) (st.map .dat) (go.map .dat) (sa.map .dat)) (upFrom 0 (m + 1)) := it_range1 rfl (by omega)
    rw [upFrom_nat] at q
    have e : (1 : Int) + (m : Int) = ((m + 1 : Nat) : Int) := by omega
    rw [e] at t2
    exact rs_go t2 q
  obtain ⟨s', h1, xs', v, hv, st', h2⟩ := for_idx (s := S xs.dropLast (some (.dat (papD (told ts)))) (st.map .dat) (go.map .dat) (sa.map .dat)) (g := putSl 10) (fb := setF 9 (rC (callD f_u_law_bent [true, false, false, false]) (rAc (getSl 1) (rAc (getSl 2) (rAc (getSl 3) (rAc (getSl 9) rA0)))))) nD (m + 1)
    (fun i s => ∃ (xs : List Int) (v : Pap), Nice ts (1600 + 2 * (i : Int)) v ∧ ∃ st : Option D, s = S xs (some (.dat (papD v))) (st.map .dat) (go.map .dat) (sa.map .dat)) ⟨xs.dropLast, told ts, (by rw [show (1600 : Int) + 2 * ((0 : Nat) : Int) = 1600 from rfl]; exact told_nice g), st, rfl⟩ fun i s hi ⟨xs, v, hv, st, es⟩ => by
      subst es
      obtain ⟨v', xs', hv', hr⟩ := run_law_bent xs (by omega) h0 (by omega) hv
      refine ⟨S xs (some (.dat (papD v))) (some (.dat (nD i))) (go.map .dat) (sa.map .dat), S xs' (some (.dat (papD v'))) (some (.dat (nD i))) (go.map .dat) (sa.map .dat), by cases st <;> rfl, ?_, xs', v', ?_, some (nD i), rfl⟩
      · refine st_setFS (s1 := S xs' (some (.dat (papD v))) (some (.dat (nD i))) (go.map .dat) (sa.map .dat)) ?_ rfl
        exact run_lend (k := 1) (sv := .own (.list (xs.map .int))) (pre := []) (post := [tksD ts, .list (belowL ts), papD v]) (ra_cons (rn_get (sv := .own (.list (xs.map .int))) rfl) (ra_cons (ev_get rfl) (ra_cons (ev_get rfl) (ra_cons (ev_get rfl) ra_nil)))) rfl rfl rfl rfl hr
      · have e : (1600 : Int) + 2 * ((i + 1 : Nat) : Int) = 1600 + 2 * (i : Int) + 2 := by omega
        rw [e]
        exact hv'
  subst h2
  have hB : (1600 : Int) + 2 * ((m + 1 : Nat) : Int) ≤ 61000000 := by omega
  let good : Bool := shownAll ts v
  let said : Int := topMost ts (bds v)
  have g3 : setF 11 (rC (callD f_u_law_right [false, false, false]) (rAc (getSl 2) (rAc (getSl 3) (rAc (getSl 9) rA0)))) (S xs' (some (.dat (papD v))) (st'.map .dat) (go.map .dat) (sa.map .dat)) = some (.ok .nx (S xs' (some (.dat (papD v))) (st'.map .dat) (some (.dat (.bool good))) (sa.map .dat))) :=
    st_setF (ev_call (es := [tksD ts, .list (belowL ts), papD v]) (ra_cons (ev_get rfl) (ra_cons (ev_get rfl) (ra_cons (ev_get rfl) ra_nil))) (run_law_right (by omega) hv)) (by cases go <;> rfl)
  have htl := tops_len ts
  have htn := last_top g ne
  have g4 : rAsg (rC gMax (rAc (lcD [16] (rItems (getSl 6)) (putSl 16) (pure true) (rO gIx (rO gIx (getSl 9) (getSl 16)) (rI 0))) rA0)) (putSl 12) (S xs' (some (.dat (papD v))) (st'.map .dat) (some (.dat (.bool good))) (sa.map .dat)) = some (.ok .nx (S xs' (some (.dat (papD v))) (st'.map .dat) (some (.dat (.bool good))) (some (.dat (.int said))))) := by
    have q := lc_mapT (vs := [16]) (fi := rItems (getSl 6)) (g := putSl 16) (fe := rO gIx (rO gIx (getSl 9) (getSl 16)) (rI 0)) (s := S xs' (some (.dat (papD v))) (st'.map .dat) (some (.dat (.bool good))) (sa.map .dat)) (l := topsOf ts) nD (fun c => .int (intAt (bds v) c)) (it_seq (d := .list ((topsOf ts).map nD)) (ev_get rfl) rfl) rfl (by omega) fun c hc => by
      have hcv : c < v.length := by rw [hv.len]; exact tops_lt hc
      have e : intAt (bds v) c = v[c].1 := by
        unfold intAt bds
        rw [List.getElem?_map, List.getElem?_eq_getElem hcv]
        rfl
      refine ⟨(S xs' (some (.dat (papD v))) (st'.map .dat) (some (.dat (.bool good))) (sa.map .dat)).set 16 (some (.dat (nD c))), rfl, rfl, ?_⟩
      rw [e]
      exact ev_ix (ev_ix (ev_get (d := papD v) rfl) (ev_get (d := nD c) rfl) rfl (atI_map (f := rowD) hcv)) (ev_int (i := 0)) rfl rfl
    have e1 : (topsOf ts).map (fun c => (.int (intAt (bds v) c) : D)) = ((topsOf ts).map (intAt (bds v))).map .int := by
      rw [List.map_map]
      rfl
    rw [e1] at q
    have q2 := ev_max (ra_cons q ra_nil) rfl (by simpa using htn)
    have e2 : maxL ((topsOf ts).map (intAt (bds v))) = said := by
      show _ = topMost ts (bds v)
      unfold topMost
      rw [if_neg htn]
    rw [e2] at q2
    exact st_asg q2 (by cases sa <;> rfl)
  let Z : DS := S xs' (some (.dat (papD v))) (st'.map .dat) (some (.dat (.bool good))) (some (.dat (.int said)))
  have hle : good = true → said ≤ L := fun h => top_le g hv h
  have t1 : Rn (orT (rNotT (rT (rC (callD (fr_u_law_alike 6) [false, false]) (rAc (rC (callD f_is_paper [false, false]) (rAc (getSl 2) (rAc (getSl 9) rA0))) (rAc (getSl 11) rA0))))) (andT (rT (getSl 11)) (rT (rO gGt (getSl 12) (getSl 7))))) Z false := by
    have p1 : Ev (rC (callD f_is_paper [false, false]) (rAc (getSl 2) (rAc (getSl 9) rA0))) Z (.bool good) := ev_call (es := [tksD ts, papD v]) (ra_cons (ev_get rfl) (ra_cons (ev_get rfl) ra_nil)) (nice_paper g hB hv)
    have p2 := ev_call (s := Z) (es := [.bool good, .bool good]) (ms := [false, false]) (ra_cons p1 (ra_cons (ev_get (k := 11) rfl) ra_nil)) (alk_bool (n := 5) good good)
    have e : (good == good) = true := by simp
    rw [e] at p2
    refine rt_or (x := false) (y := false) (rt_not (rt_val p2)) fun _ => ?_
    have q := rt_and (rt_val (ev_get (s := Z) (k := 11) (d := .bool good) rfl)) (y := false) fun h => by
      have h1 := hle h
      have q := rt_val (ev_gt (s := Z) (ev_get (k := 12) (d := .int said) rfl) (ev_get (k := 7) (d := .int L) rfl))
      rwa [decide_eq_false (by omega)] at q
    rw [Bool.and_false] at q
    exact q
  have t2 : Rn (rNotT (rT (rC (callD (fr_u_law_alike 6) [false, false]) (rAc (rC mkL (rAc (rC (callD f_proves_least [false, false, false]) (rAc (getSl 2) (rAc (getSl 12) (rAc (getSl 9) rA0)))) (rAc (rC (callD f_proves_least [false, false, false]) (rAc (getSl 2) (rAc (getSl 7) (rAc (getSl 9) rA0)))) rA0))) (rAc (rC mkL (rAc (getSl 11) (rAc (andD (getSl 11) (rO gEq (getSl 12) (getSl 7))) rA0))) rA0))))) Z false := by
    have p1 := ev_call (s := Z) (ms := [false, false, false]) (es := [tksD ts, .int said, papD v]) (fr := rAc (getSl 2) (rAc (getSl 12) (rAc (getSl 9) rA0))) (ra_cons (ev_get rfl) (ra_cons (ev_get rfl) (ra_cons (ev_get rfl) ra_nil))) (nice_proves g said hB hv)
    have p2 := ev_call (s := Z) (ms := [false, false, false]) (es := [tksD ts, .int L, papD v]) (fr := rAc (getSl 2) (rAc (getSl 7) (rAc (getSl 9) rA0))) (ra_cons (ev_get rfl) (ra_cons (ev_get rfl) (ra_cons (ev_get rfl) ra_nil))) (nice_proves g L hB hv)
    have p3 := rn_lst (es := [.bool (good && decide (said = said)), .bool (good && decide (said = L))]) (ra_cons p1 (ra_cons p2 ra_nil)) (show 2 ≤ 16777216 by decide)
    have p4 := ev_and (s := Z) (ev_get (k := 11) (d := .bool good) rfl) fun _ => rn_eq (ev_get (k := 12) (d := .int said) rfl) (ev_get (k := 7) (d := .int L) rfl) rfl rfl rfl rfl
    have p5 := rn_lst (es := [.bool good, .bool (good && PyData.eqv (.int said) (.int L))]) (ra_cons (ev_get (s := Z) (k := 11) (d := .bool good) rfl) (ra_cons p4 ra_nil)) (show 2 ≤ 16777216 by decide)
    have p6 := rn_callP (ms := [false, false]) (es := [.list [.bool (good && decide (said = said)), .bool (good && decide (said = L))], .list [.bool good, .bool (good && PyData.eqv (.int said) (.int L))]]) (ra_cons p3 (ra_cons p5 ra_nil)) rfl (alk_pair (n := 4) _ _ _ _)
    have e : ((good && decide (said = said)) == good && (good && decide (said = L)) == (good && PyData.eqv (.int said) (.int L))) = true := by
      rw [eqv_int, decide_eq_true rfl, Bool.and_true]
      simp
    rw [e] at p6
    exact rt_not (rt_val p6)
  refine ⟨Z, ?_, xs', some (papD v), st', some (.bool good), some (.int said), rfl⟩
  unfold turnBody
  exact (then_nx g1).trans ((then_nx ((it.bind).trans h1)).trans ((then_nx g3).trans ((then_nx g4).trans ((then_nx ((st_if t1).trans rfl)).trans ((st_if t2).trans rfl)))))
end
end Den
/-! QD: the law of k70 comes to True -/
namespace Den
open PySem PyProof.Rows L2 K70
def tailBody : M Fl := (thenS (rAsg (rO gIx (getSl 5) (rI 0)) (putSl 13))
 (thenS (setF 14 (rC mkL (rAc rN (rAc (rC gListA (rAc (getSl 5) rA0)) (rAc (rSlice (getSl 5) (rOs (rI 1)) rOn) (rAc (rO gAdd (getSl 5) (rSlice (getSl 5) rOn (rOs (rI 1)))) (rAc (rO gAdd (rC mkT (rAc rN rA0)) (rSlice (getSl 5) (rOs (rI 1)) rOn)) (rAc (rO gAdd (rC mkT (rAc (rSlice (getSl 13) rOn (rOs (rI 1))) rA0)) (rSlice (getSl 5) (rOs (rI 1)) rOn)) (rAc (rO gAdd (rC mkT (rAc (rO gAdd (getSl 13) (rC mkT (rAc (rI 0) rA0))) rA0)) (rSlice (getSl 5) (rOs (rI 1)) rOn)) (rAc (rO gAdd (rC mkT (rAc (rC gListA (rAc (getSl 13) rA0)) rA0)) (rSlice (getSl 5) (rOs (rI 1)) rOn)) rA0))))))))))
 (thenS (rAsg (rO gAdd (getSl 14) (rC mkL (rAc (rO gAdd (rC mkT (rAc (rC mkT (rAc (rNeg (rI 1)) (rAc (rO gIx (getSl 13) (rI 1)) rA0))) rA0)) (rSlice (getSl 5) (rOs (rI 1)) rOn)) (rAc (rO gAdd (rC mkT (rAc (rC mkT (rAc (rB true) (rAc (rO gIx (getSl 13) (rI 1)) rA0))) rA0)) (rSlice (getSl 5) (rOs (rI 1)) rOn)) rA0)))) (putSl 14))
 (thenS (rAsg (rO gAdd (getSl 14) (rC mkL (rAc (rO gAdd (rC mkT (rAc (rC mkT (rAc (rC gStr (rAc (rO gIx (getSl 13) (rI 0)) rA0)) (rAc (rO gIx (getSl 13) (rI 1)) rA0))) rA0)) (rSlice (getSl 5) (rOs (rI 1)) rOn)) (rAc (rO gAdd (rC mkT (rAc (rC mkT (rAc (rO gIx (getSl 13) (rI 0)) (rAc rN rA0))) rA0)) (rSlice (getSl 5) (rOs (rI 1)) rOn)) (rAc (rO gAdd (rC mkT (rAc (rC mkT (rAc (rO gIx (getSl 13) (rI 0)) (rAc (rC gListA (rAc (rO gIx (getSl 13) (rI 1)) rA0)) rA0))) rA0)) (rSlice (getSl 5) (rOs (rI 1)) rOn)) (rAc (rO gAdd (rC mkT (rAc (rC mkT (rAc (rO gIx (getSl 13) (rI 0)) (rAc (rC mkT (rAc (rI 0) rA0)) rA0))) rA0)) (rSlice (getSl 5) (rOs (rI 1)) rOn)) (rAc (rO gAdd (rC mkT (rAc (rC mkT (rAc (rI 0) (rAc (rC mkT (rAc (rC gLen (rAc (getSl 2) rA0)) rA0)) rA0))) rA0)) (rSlice (getSl 5) (rOs (rI 1)) rOn)) rA0))))))) (putSl 14))
 (rRet (rO gEq (lcD [9] (rItems (getSl 14)) (putSl 9) (orT (rT (rO (gIsB true) (rC (callD f_is_paper [false, false]) (rAc (getSl 2) (rAc (getSl 9) rA0))) (rB false))) (rT (rO (gIsB true) (rC (callD f_proves_least [false, false, false]) (rAc (getSl 2) (rAc (getSl 7) (rAc (getSl 9) rA0)))) (rB false)))) (getSl 9)) (rC mkL rA0)))))))
section
variable {s : DS} {fa : M R} {i : Int}
theorem ev_str' (h : Ev fa s (.int i)) (hb : i.natAbs.log2 < 1920) : Ev (rC gStr (rAc fa rA0)) s (.str (toString i)) := rn_c (ra_cons h ra_nil) (by
  show (need (decide (i.natAbs.log2 < 1920)) >>= fun _ => (pure (.dat (.str (toString i))) : M R)) s = _
  rw [run_bind, run_need, decide_eq_true hb]
  rfl)
end
theorem cut1 {s : DS} {fa : M R} {es : List D} (h1 : Ev fa s (.tuple es)) (h : 1 ≤ es.length) : Ev (rSlice fa (rOs (rI 1)) rOn) s (.tuple (es.drop 1)) := ev_cutFrom (k := 1) h1 ev_int h
theorem to1 {s : DS} {fa : M R} {es : List D} (h1 : Ev fa s (.tuple es)) (h : 1 ≤ es.length) : Ev (rSlice fa rOn (rOs (rI 1))) s (.tuple (es.take 1)) := ev_cutTo (k := 1) h1 ev_int h
theorem run_tail {ts : List Tk} (g : GoodT ts) (h0 : 0 < ts.length) (sc : D) (xs : List Int) (tu va st go sa ro : Option D) : ∃ s', tailBody (LS sc xs ts (topMost ts (pks ts)) (tu.map .dat) (va.map .dat) (st.map .dat) (go.map .dat) (sa.map .dat) (ro.map .dat) none) = some (.ok (.rt (.dat (.bool true))) s') := by
  have hn := g.len
  let v := told ts
  have hv := told_nice g
  have hlen : v.length = ts.length := hv.len
  have h0v : 0 < v.length := by rw [hlen]; exact h0
  obtain ⟨r0, hrB, rs⟩ := hv.ok 0 v[0] (List.getElem?_eq_getElem h0v)
  generalize hr : v[0] = r at r0 hrB rs
  obtain ⟨b, sm⟩ := r
  have r0 : 0 ≤ b := r0
  have hrB : b ≤ 1600 := hrB
  have hsm : sm.length ≤ 1000 := by
    have h1 := (show sm.Sublist (kids ts 0) from rs).length_le
    have := kids_len ts 0
    omega
  let S (ro od : Option SV) : DS := LS sc xs ts (topMost ts (pks ts)) (tu.map .dat) (va.map .dat) (st.map .dat) (go.map .dat) (sa.map .dat) ro od
  let Z (od : Option SV) : DS := S (some (.dat (rowD (b, sm)))) od
  have gd (ro od : Option SV) : Ev (getSl 5) (S ro od) (.tuple (v.map rowD)) := ev_get rfl
  have gr (od : Option SV) : Ev (getSl 13) (Z od) (.tuple [.int b, natsD sm]) := ev_get rfl
  have hl1 : 1 ≤ (v.map rowD).length := by rw [List.length_map]; omega
  have hdl : ((v.map rowD).drop 1).length ≤ 1000 := by rw [List.length_drop, List.length_map]; omega
  have g1 : rAsg (rO gIx (getSl 5) (rI 0)) (putSl 13) (S (ro.map .dat) none) = some (.ok .nx (Z none)) := by
    have q := ev_ix (s := S (ro.map .dat) none) (fa := getSl 5) (fb := rI 0) (ev_get (d := papD v) rfl) (ev_int (i := 0)) rfl (atI_map (f := rowD) (l := v) (c := 0) h0v)
    rw [hr] at q
    exact st_asg q (by cases ro <;> rfl)
  -- d ahead of the rest
  have w {od : Option SV} {fd : M R} {d : D} (h : Ev fd (Z od) d) : Ev (rO gAdd (rC mkT (rAc fd rA0)) (rSlice (getSl 5) (rOs (rI 1)) rOn)) (Z od) (.tuple ([d] ++ (v.map rowD).drop 1)) :=
    ev_addT (ev_tup (es := [d]) (ra_cons h ra_nil) (show 1 ≤ 16777216 by decide)) (cut1 (gd _ _) hl1) (by show 1 + _ ≤ _; omega)
  have i0 (od : Option SV) : Ev (rO gIx (getSl 13) (rI 0)) (Z od) (.int b) := ev_ix (gr od) (ev_int (i := 0)) rfl rfl
  have i1 (od : Option SV) : Ev (rO gIx (getSl 13) (rI 1)) (Z od) (natsD sm) := ev_ix (gr od) (ev_int (i := 1)) rfl rfl
  have pr {od : Option SV} {fd fe : M R} {d e : D} (h : Ev fd (Z od) d) (h2 : Ev fe (Z od) e) : Ev (rC mkT (rAc fd (rAc fe rA0))) (Z od) (.tuple [d, e]) := ev_tup (es := [d, e]) (ra_cons h (ra_cons h2 ra_nil)) (show 2 ≤ 16777216 by decide)
  let W (d : D) : D := .tuple ([d] ++ (v.map rowD).drop 1)
  let o1 : List D := [.none, .list (v.map rowD), .tuple ((v.map rowD).drop 1), .tuple (v.map rowD ++ (v.map rowD).take 1), W .none, W (.tuple [.int b]), W (.tuple [.int b, natsD sm, .int 0]), W (.list [.int b, natsD sm])]
  let o2 : List D := [W (.tuple [.int (-1), natsD sm]), W (.tuple [.bool true, natsD sm])]
  let o3 : List D := [W (.tuple [.str (toString b), natsD sm]), W (.tuple [.int b, .none]), W (.tuple [.int b, .list (sm.map nD)]), W (.tuple [.int b, natsD [0]]), W (.tuple [.int 0, natsD [ts.length]])]
  have lst (od : Option SV) : Rn (rC gListA (rAc (getSl 5) rA0)) (Z od) (.new (.list (v.map rowD))) := rn_listA (ra_cons (gd _ _) ra_nil) rfl rfl
  have g2 : setF 14 (rC mkL (rAc rN (rAc (rC gListA (rAc (getSl 5) rA0)) (rAc (rSlice (getSl 5) (rOs (rI 1)) rOn) (rAc (rO gAdd (getSl 5) (rSlice (getSl 5) rOn (rOs (rI 1)))) (rAc (rO gAdd (rC mkT (rAc rN rA0)) (rSlice (getSl 5) (rOs (rI 1)) rOn)) (rAc (rO gAdd (rC mkT (rAc (rSlice (getSl 13) rOn (rOs (rI 1))) rA0)) (rSlice (getSl 5) (rOs (rI 1)) rOn)) (rAc (rO gAdd (rC mkT (rAc (rO gAdd (getSl 13) (rC mkT (rAc (rI 0) rA0))) rA0)) (rSlice (getSl 5) (rOs (rI 1)) rOn)) (rAc (rO gAdd (rC mkT (rAc (rC gListA (rAc (getSl 13) rA0)) rA0)) (rSlice (getSl 5) (rOs (rI 1)) rOn)) rA0))))))))) (Z none) = some (.ok .nx (Z (some (.dat (.list o1))))) := by
    have wl : Ev (rO gAdd (rC mkT (rAc (rC gListA (rAc (getSl 13) rA0)) rA0)) (rSlice (getSl 5) (rOs (rI 1)) rOn)) (Z none) (W (.list [.int b, natsD sm])) := by
      have q : Rn (rC gListA (rAc (getSl 13) rA0)) (Z none) (.new (.list [.int b, natsD sm])) := rn_listA (ra_cons (gr none) ra_nil) rfl rfl
      have q2 : Rn (rAc (rC gListA (rAc (getSl 13) rA0)) rA0) (Z none) [.new (.list [.int b, natsD sm])] := ra_cons q ra_nil
      have q3 : Ev (rC mkT (rAc (rC gListA (rAc (getSl 13) rA0)) rA0)) (Z none) (.tuple [.list [.int b, natsD sm]]) := rn_c q2 rfl
      exact ev_addT q3 (cut1 (gd _ _) hl1) (by show 1 + _ ≤ _; omega)
    have q : Rn (rAc rN (rAc (rC gListA (rAc (getSl 5) rA0)) (rAc (rSlice (getSl 5) (rOs (rI 1)) rOn) (rAc (rO gAdd (getSl 5) (rSlice (getSl 5) rOn (rOs (rI 1)))) (rAc (rO gAdd (rC mkT (rAc rN rA0)) (rSlice (getSl 5) (rOs (rI 1)) rOn)) (rAc (rO gAdd (rC mkT (rAc (rSlice (getSl 13) rOn (rOs (rI 1))) rA0)) (rSlice (getSl 5) (rOs (rI 1)) rOn)) (rAc (rO gAdd (rC mkT (rAc (rO gAdd (getSl 13) (rC mkT (rAc (rI 0) rA0))) rA0)) (rSlice (getSl 5) (rOs (rI 1)) rOn)) (rAc (rO gAdd (rC mkT (rAc (rC gListA (rAc (getSl 13) rA0)) rA0)) (rSlice (getSl 5) (rOs (rI 1)) rOn)) rA0)))))))) (Z none)
        [.dat .none, .new (.list (v.map rowD)), .dat (.tuple ((v.map rowD).drop 1)), .dat (.tuple (v.map rowD ++ (v.map rowD).take 1)), .dat (W .none), .dat (W (.tuple [.int b])), .dat (W (.tuple [.int b, natsD sm, .int 0])), .dat (W (.list [.int b, natsD sm]))] :=
      ra_cons ev_none (ra_cons (lst none) (ra_cons (cut1 (gd _ _) hl1) (ra_cons (ev_addT (gd _ _) (to1 (gd _ _) hl1) (by rw [List.length_take, List.length_map]; omega)) (ra_cons (w ev_none) (ra_cons (w (to1 (gr none) (show 1 ≤ 2 by decide))) (ra_cons (w (ev_addT (gr none) (ev_tup (es := [.int 0]) (ra_cons ev_int ra_nil) (show 1 ≤ 16777216 by decide)) (show 2 + 1 ≤ 16777216 by decide))) (ra_cons wl ra_nil)))))))
    exact st_setN (d := .list o1) (rn_c q rfl) rfl
  have gO (od : D) : Rn (getSl 14) (Z (some (.dat od))) (.dat od) := ev_get rfl
  have g3 : rAsg (rO gAdd (getSl 14) (rC mkL (rAc (rO gAdd (rC mkT (rAc (rC mkT (rAc (rNeg (rI 1)) (rAc (rO gIx (getSl 13) (rI 1)) rA0))) rA0)) (rSlice (getSl 5) (rOs (rI 1)) rOn)) (rAc (rO gAdd (rC mkT (rAc (rC mkT (rAc (rB true) (rAc (rO gIx (getSl 13) (rI 1)) rA0))) rA0)) (rSlice (getSl 5) (rOs (rI 1)) rOn)) rA0)))) (putSl 14) (Z (some (.dat (.list o1)))) = some (.ok .nx (Z (some (.own (.list (o1 ++ o2)))))) :=
    st_asg (rn_addL (gO _) (rn_lst (es := o2) (ra_cons (w (pr (ev_neg ev_int) (i1 _))) (ra_cons (w (pr ev_bool (i1 _))) ra_nil)) (show 2 ≤ 16777216 by decide)) rfl rfl (show 8 + 2 ≤ 16777216 by decide)) rfl
  have gO2 (od : D) : Rn (getSl 14) (Z (some (.own od))) (.at 14) := rn_get (sv := .own od) rfl
  have ln (od : Option SV) : Ev (rC gLen (rAc (getSl 2) rA0)) (Z od) (nD ts.length) := by
    have q := ev_len (s := Z od) (es := ts.map tkD) (ra_cons (ev_get (k := 2) (d := tksD ts) rfl) ra_nil) rfl rfl
    rwa [List.length_map] at q
  have g4 : rAsg (rO gAdd (getSl 14) (rC mkL (rAc (rO gAdd (rC mkT (rAc (rC mkT (rAc (rC gStr (rAc (rO gIx (getSl 13) (rI 0)) rA0)) (rAc (rO gIx (getSl 13) (rI 1)) rA0))) rA0)) (rSlice (getSl 5) (rOs (rI 1)) rOn)) (rAc (rO gAdd (rC mkT (rAc (rC mkT (rAc (rO gIx (getSl 13) (rI 0)) (rAc rN rA0))) rA0)) (rSlice (getSl 5) (rOs (rI 1)) rOn)) (rAc (rO gAdd (rC mkT (rAc (rC mkT (rAc (rO gIx (getSl 13) (rI 0)) (rAc (rC gListA (rAc (rO gIx (getSl 13) (rI 1)) rA0)) rA0))) rA0)) (rSlice (getSl 5) (rOs (rI 1)) rOn)) (rAc (rO gAdd (rC mkT (rAc (rC mkT (rAc (rO gIx (getSl 13) (rI 0)) (rAc (rC mkT (rAc (rI 0) rA0)) rA0))) rA0)) (rSlice (getSl 5) (rOs (rI 1)) rOn)) (rAc (rO gAdd (rC mkT (rAc (rC mkT (rAc (rI 0) (rAc (rC mkT (rAc (rC gLen (rAc (getSl 2) rA0)) rA0)) rA0))) rA0)) (rSlice (getSl 5) (rOs (rI 1)) rOn)) rA0))))))) (putSl 14) (Z (some (.own (.list (o1 ++ o2))))) = some (.ok .nx (Z (some (.own (.list (o1 ++ o2 ++ o3)))))) := by
    have wl : Ev (rC mkT (rAc (rO gIx (getSl 13) (rI 0)) (rAc (rC gListA (rAc (rO gIx (getSl 13) (rI 1)) rA0)) rA0))) (Z (some (.own (.list (o1 ++ o2))))) (.tuple [.int b, .list (sm.map nD)]) := by
      have q : Rn (rC gListA (rAc (rO gIx (getSl 13) (rI 1)) rA0)) (Z (some (.own (.list (o1 ++ o2))))) (.new (.list (sm.map nD))) := rn_listA (ra_cons (i1 _) ra_nil) rfl rfl
      have q2 : Rn (rAc (rO gIx (getSl 13) (rI 0)) (rAc (rC gListA (rAc (rO gIx (getSl 13) (rI 1)) rA0)) rA0)) (Z (some (.own (.list (o1 ++ o2))))) [.dat (.int b), .new (.list (sm.map nD))] := ra_cons (i0 _) (ra_cons q ra_nil)
      exact rn_c q2 rfl
    have one {od : Option SV} {fd : M R} {n : Nat} (h : Ev fd (Z od) (nD n)) : Ev (rC mkT (rAc fd rA0)) (Z od) (natsD [n]) := ev_tup (es := [nD n]) (ra_cons h ra_nil) (show 1 ≤ 16777216 by decide)
    have hlog : b.natAbs.log2 < 1920 := by
      have h1 := Nat.log2_le_self b.natAbs
      omega
    exact st_asg (rn_addL (gO2 _) (rn_lst (es := o3) (ra_cons (w (pr (ev_str' (i0 _) hlog) (i1 _))) (ra_cons (w (pr (i0 _) ev_none)) (ra_cons (w wl) (ra_cons (w (pr (i0 _) (one (n := 0) ev_int))) (ra_cons (w (pr ev_int (one (ln _)))) ra_nil))))) (show 5 ≤ 16777216 by decide)) rfl rfl (show 10 + 5 ≤ 16777216 by decide)) rfl
  have eo : o1 ++ o2 ++ o3 = oddL ts v b sm := rfl
  let E : DS := Z (some (.dat (.list (oddL ts v b sm))))
  have q := lc_T (vs := [9]) (fi := pure (oddL ts v b sm)) (g := putSl 9) (ft := orT (rT (rO (gIsB true) (rC (callD f_is_paper [false, false]) (rAc (getSl 2) (rAc (getSl 9) rA0))) (rB false))) (rT (rO (gIsB true) (rC (callD f_proves_least [false, false, false]) (rAc (getSl 2) (rAc (getSl 7) (rAc (getSl 9) rA0)))) (rB false)))) (fe := getSl 9) (s := E) (l := oddL ts v b sm) (fun d => d) (fun _ => false) (fun d => d) (by rw [List.map_id']; rfl) (by cases va <;> rfl) (show 15 ≤ 16777216 by decide) fun d hd => by
    have h1 := odd_no g hv h0 hsm d hd
    refine ⟨E.set 9 (some (.dat d)), by cases va <;> rfl, by cases va <;> rfl, ?_, fun _ => ev_get rfl⟩
    have p1 := ev_call (s := E.set 9 (some (.dat d))) (ms := [false, false]) (es := [tksD ts, d]) (fr := rAc (getSl 2) (rAc (getSl 9) rA0)) (ra_cons (ev_get rfl) (ra_cons (ev_get rfl) ra_nil)) h1
    have p2 := ev_call (s := E.set 9 (some (.dat d))) (ms := [false, false, false]) (es := [tksD ts, .int (topMost ts (pks ts)), d]) (fr := rAc (getSl 2) (rAc (getSl 7) (rAc (getSl 9) rA0))) (ra_cons (ev_get rfl) (ra_cons (ev_get rfl) (ra_cons (ev_get rfl) ra_nil))) (run_proves_no h1)
    exact rt_or (x := false) (y := false) (rt_val (ev_notB p1 ev_bool)) fun _ => rt_val (ev_notB p2 ev_bool)
  rw [List.filter_eq_nil_iff.mpr (fun a _ => by simp)] at q
  have q2 : Rs (lcD [9] (rItems (getSl 14)) (putSl 9) (orT (rT (rO (gIsB true) (rC (callD f_is_paper [false, false]) (rAc (getSl 2) (rAc (getSl 9) rA0))) (rB false))) (rT (rO (gIsB true) (rC (callD f_proves_least [false, false, false]) (rAc (getSl 2) (rAc (getSl 7) (rAc (getSl 9) rA0)))) (rB false)))) (getSl 9)) (Z (some (.own (.list (o1 ++ o2 ++ o3))))) (.new (.list [])) E := lc_fi (it_own (k := 14) rfl) q
  have q3 := rs_o (g := gEq) q2 (Rn.rs (rn_lst (s := E) (es := []) ra_nil (Nat.zero_le _))) (z := .dat (.bool true)) rfl
  refine ⟨E, ?_⟩
  unfold tailBody
  refine (then_nx g1).trans ((then_nx g2).trans ((then_nx g3).trans ((then_nx g4).trans ?_)))
  unfold rRet
  rw [q3.bind]
  rfl
end Den
/-! QE: the plain law of k70 -/
namespace Den
open PySem PyProof.Rows L2 K70
theorem top_least {ts : List Tk} (g : GoodT ts) : maxL ((topsOf ts).map (intAt (pks ts)) ++ [0]) = topMost ts (pks ts) := by
  unfold topMost
  by_cases e : topsOf ts = []
  · rw [if_pos e, e]
    rfl
  · rw [if_neg e]
    obtain ⟨h1, h2⟩ := maxL_spec (ns := (topsOf ts).map (intAt (pks ts))) (by simpa using e)
    refine (maxL_uniq (List.mem_append_left _ h1) fun y hy => ?_).symm
    rcases List.mem_append.mp hy with hy | hy
    · exact h2 y hy
    · rw [List.mem_singleton.mp hy]
      obtain ⟨c, hc, h3⟩ := List.mem_map.mp h1
      have := pk_bd g c (tops_lt hc)
      omega
theorem plain_law (ns : List Int) (hn63 : ns.length ≤ 63) (_ : ∀ z ∈ ns, Builtin.Int.intBits z ≤ 1048576) : ∃ outs, f_law [(false, scriptD (ns.map .int))] = some (.ok (.dat (.bool true)) outs) := by
  refine ⟨[], ?_⟩
  let sc : D := scriptD (ns.map .int)
  obtain ⟨xs, hx⟩ := run_draws ns hn63
  obtain ⟨ts, xs1, g, ht⟩ := run_law_tasks xs
  have hn := g.len
  let S (a t c p d tp l : Option SV) : DS := [some (.dat sc), a, t, c, p, d, tp, l, none, none, none, none, none, none, none, none, none, none]
  let A : Option SV := some (.own (.list (xs1.map .int)))
  let T : Option SV := some (.dat (tksD ts))
  let C : Option SV := some (.dat (.list (belowL ts)))
  let P : Option SV := some (.dat (.list ((pks ts).map .int)))
  let Du : Option SV := some (.dat (papD (told ts)))
  let To : Option SV := some (.dat (.list ((topsOf ts).map nD)))
  let L : Int := topMost ts (pks ts)
  have g1 : rAsg (rC (callD f_u_law_draws [false]) (rAc (getSl 0) rA0)) (putSl 1) (S none none none none none none none) = some (.ok .nx (S (some (.own (.list (xs.map .int)))) none none none none none none)) := st_asg (rn_call (es := [sc]) (ra_cons (ev_get rfl) ra_nil) hx) rfl
  have g2 : setF 2 (rC (callD f_u_law_tasks [true, false, false]) (rAc (getSl 1) (rAc (rI 8) (rAc (rI 15) rA0)))) (S (some (.own (.list (xs.map .int)))) none none none none none none) = some (.ok .nx (S A T none none none none none)) :=
    st_setFS (s1 := S A none none none none none none) (run_lend (k := 1) (sv := .own (.list (xs.map .int))) (pre := []) (post := [.int 8, .int 15]) (ra_cons (rn_get (sv := .own (.list (xs.map .int))) rfl) (ra_cons ev_int (ra_cons ev_int ra_nil))) rfl rfl rfl rfl ht) rfl
  have g3 : setF 3 (rC (callD f_u_law_children [false]) (rAc (getSl 2) rA0)) (S A T none none none none none) = some (.ok .nx (S A T C none none none none)) := st_setN (rn_call (es := [tksD ts]) (ra_cons (ev_get rfl) ra_nil) (run_law_children (by omega))) rfl
  have t4 : Rn (rT (rO gNe (lcD [13] (rItems (getSl 3)) (putSl 13) (rT (rO gGt (rC gLen (rAc (getSl 13) rA0)) (rI 5))) (getSl 13)) (rC mkL rA0))) (S A T C none none none none) (!(((List.range ts.length).filter fun i => decide (5 < (kids ts i).length)).map fun i => natsD (kids ts i)).isEmpty) := by
    refine rt_val (ev_neNil (k := 1) (lc_T (l := List.range ts.length) (fun i => natsD (kids ts i)) _ _ (it_seq (d := .list (belowL ts)) (ev_get rfl) rfl) rfl (by rw [List.length_range]; omega) fun i hi => ?_) rfl fun x hx => ?_)
    · refine ⟨(S A T C none none none none).set 13 (some (.dat (natsD (kids ts i)))), rfl, rfl, ?_, fun _ => ev_get rfl⟩
      have e := ev_len (s := (S A T C none none none none).set 13 (some (.dat (natsD (kids ts i))))) (es := (kids ts i).map nD) (ra_cons (ev_get (k := 13) (d := natsD (kids ts i)) rfl) ra_nil) rfl rfl
      rw [List.length_map] at e
      have q := rt_val (ev_gt e (ev_int (i := 5)))
      have e2 : decide ((5 : Int) < ((kids ts i).length : Int)) = decide (5 < (kids ts i).length) := decide_eq_decide.mpr (by omega)
      rw [e2] at q
      exact q
    · obtain ⟨i, _, rfl⟩ := List.mem_map.mp hx
      exact shp_nats _
  by_cases hk : ∃ i, i < ts.length ∧ 5 < (kids ts i).length
  · obtain ⟨i, hi, h5⟩ := hk
    have e : (((List.range ts.length).filter fun i => decide (5 < (kids ts i).length)).map fun i => natsD (kids ts i)).isEmpty = false := by
      have hm : i ∈ (List.range ts.length).filter fun i => decide (5 < (kids ts i).length) := List.mem_filter.mpr ⟨List.mem_range.mpr hi, decide_eq_true h5⟩
      cases hf : (List.range ts.length).filter fun i => decide (5 < (kids ts i).length) with
      | nil => rw [hf] at hm; cases hm
      | cons x r => rfl
    rw [e] at t4
    refine runF_dat (n := 18) (b := b_law) (es := [sc]) (s1 := S A T C none none none none) ?_
    unfold b_law
    exact (then_nx (s := S none none none none none none none) g1).trans ((then_nx g2).trans ((then_nx g3).trans (then_rt ((st_if t4).trans rfl))))
  have hkl : ∀ i, (kids ts i).length ≤ 8 := fun i => by
    have := kids_len ts i
    omega
  have e : (((List.range ts.length).filter fun i => decide (5 < (kids ts i).length)).map fun i => natsD (kids ts i)).isEmpty = true := by
    rw [List.filter_eq_nil_iff.mpr fun i hi h => hk ⟨i, List.mem_range.mp hi, of_decide_eq_true h⟩]
    rfl
  rw [e] at t4
  have g5 : setF 4 (rC (callD f_u_law_least [false]) (rAc (getSl 2) rA0)) (S A T C none none none none) = some (.ok .nx (S A T C P none none none)) := st_setN (rn_call (es := [tksD ts]) (ra_cons (ev_get rfl) ra_nil) (run_law_least (by omega) g.less g.upOk hkl)) rfl
  have g6 : rAsg (rC gTuple (rAc (lcD [15] (rGo rng1 (rAc (rC gLen (rAc (getSl 2) rA0)) rA0)) (putSl 15) (pure true) (rC mkT (rAc (rO gIx (getSl 4) (getSl 15)) (rAc (rC (callD f_u_law_some [false, false, false, false]) (rAc (getSl 2) (rAc (getSl 4) (rAc (getSl 3) (rAc (getSl 15) rA0))))) rA0)))) rA0)) (putSl 5) (S A T C P none none none) = some (.ok .nx (S A T C P Du none none)) := by
    have q := lc_mapT (vs := [15]) (g := putSl 15) (fe := rC mkT (rAc (rO gIx (getSl 4) (getSl 15)) (rAc (rC (callD f_u_law_some [false, false, false, false]) (rAc (getSl 2) (rAc (getSl 4) (rAc (getSl 3) (rAc (getSl 15) rA0))))) rA0))) (s := S A T C P none none none) (l := List.range ts.length) nD
      (fun i => rowD (intAt (pks ts) i, toldV ts (pks ts) i (kids ts i))) (it_len (k := 2) rfl (by omega)) rfl (by rw [List.length_range]; omega) fun i hi => by
        have hi := List.mem_range.mp hi
        refine ⟨(S A T C P none none none).set 15 (some (.dat (nD i))), rfl, rfl, ?_⟩
        exact ev_tup (es := [.int (intAt (pks ts) i), natsD (toldV ts (pks ts) i (kids ts i))]) (ra_cons (ev_at (bs := pks ts) (ev_get (d := .list ((pks ts).map .int)) rfl) rfl (ev_get rfl) (by rw [pks_len]; exact hi)) (ra_cons (ev_call (es := [tksD ts, .list ((pks ts).map .int), .list (belowL ts), nD i]) (ra_cons (ev_get rfl) (ra_cons (ev_get rfl) (ra_cons (ev_get rfl) (ra_cons (ev_get rfl) ra_nil)))) (run_law_some (pks_len ts) hi (by omega) g.upOk (by have := g.fr hi; omega))) ra_nil)) (show 2 ≤ 16777216 by decide)
    have e1 : (List.range ts.length).map (fun i => rowD (intAt (pks ts) i, toldV ts (pks ts) i (kids ts i))) = (told ts).map rowD := by
      unfold told
      rw [List.map_map]
      rfl
    rw [e1] at q
    exact st_asg (ev_tupOf (ra_cons q ra_nil) rfl) rfl
  have g7 : thenFrz 6 (rAsg (lcD [15] (rGo rng1 (rAc (rC gLen (rAc (getSl 2) rA0)) rA0)) (putSl 15) (rT (rO (gIsN false) (rO gIx (rO gIx (getSl 2) (getSl 15)) (rI 0)) rN)) (getSl 15)) (putSl 6)) (S A T C P Du none none) = some (.ok .nx (S A T C P Du To none)) := by
    have q := lc_T (vs := [15]) (g := putSl 15) (ft := rT (rO (gIsN false) (rO gIx (rO gIx (getSl 2) (getSl 15)) (rI 0)) rN)) (fe := getSl 15) (s := S A T C P Du none none) (l := List.range ts.length) nD (fun c => (parOf ts c).isNone) nD (it_len (k := 2) rfl (by omega)) rfl (by rw [List.length_range]; omega) fun c hc => by
      refine ⟨(S A T C P Du none none).set 15 (some (.dat (nD c))), rfl, rfl, ?_, fun _ => ev_get rfl⟩
      have e2 : isNone (parD (parOf ts c)) = (parOf ts c).isNone := by cases parOf ts c <;> rfl
      have q := rt_val (ev_isN (s := (S A T C P Du none none).set 15 (some (.dat (nD c)))) (ev_par (ts := ts) (c := c) (fa := getSl 2) (fb := getSl 15) (ev_get rfl) (ev_get rfl) (List.mem_range.mp hc)))
      rw [e2] at q
      exact q
    have q2 : rAsg (lcD [15] (rGo rng1 (rAc (rC gLen (rAc (getSl 2) rA0)) rA0)) (putSl 15) (rT (rO (gIsN false) (rO gIx (rO gIx (getSl 2) (getSl 15)) (rI 0)) rN)) (getSl 15)) (putSl 6) (S A T C P Du none none) = some (.ok .nx (S A T C P Du (some (.own (.list ((topsOf ts).map nD)))) none)) := st_asg q rfl
    unfold thenFrz
    rw [bind_ok q2]
    rfl
  have htl := tops_len ts
  have g8 : rAsg (rC gMax (rAc (rO gAdd (lcD [16] (rItems (getSl 6)) (putSl 16) (pure true) (rO gIx (getSl 4) (getSl 16))) (rC mkL (rAc (rI 0) rA0))) rA0)) (putSl 7) (S A T C P Du To none) = some (.ok .nx (S A T C P Du To (some (.dat (.int L))))) := by
    have q := lc_mapT (vs := [16]) (fi := rItems (getSl 6)) (g := putSl 16) (fe := rO gIx (getSl 4) (getSl 16)) (s := S A T C P Du To none) (l := topsOf ts) nD (fun c => .int (intAt (pks ts) c)) (it_seq (d := .list ((topsOf ts).map nD)) (ev_get rfl) rfl) rfl (by omega) fun c hc =>
      ⟨(S A T C P Du To none).set 16 (some (.dat (nD c))), rfl, rfl, ev_at (bs := pks ts) (ev_get (d := .list ((pks ts).map .int)) rfl) rfl (ev_get rfl) (by rw [pks_len]; exact tops_lt hc)⟩
    have e1 : (topsOf ts).map (fun c => (.int (intAt (pks ts) c) : D)) = ((topsOf ts).map (intAt (pks ts))).map .int := by
      rw [List.map_map]
      rfl
    rw [e1] at q
    have q2 := rn_addL q (rn_lst (es := [.int 0]) (ra_cons ev_int ra_nil) (show 1 ≤ 16777216 by decide)) rfl rfl (by rw [List.length_map, List.length_map]; show _ + 1 ≤ _; omega)
    have e2 : ((topsOf ts).map (intAt (pks ts))).map PyData.int ++ [.int 0] = ((topsOf ts).map (intAt (pks ts)) ++ [0]).map .int := by
      rw [List.map_append]
      rfl
    rw [e2] at q2
    have q3 := ev_max (ra_cons q2 ra_nil) rfl (by simp)
    rw [top_least g] at q3
    exact st_asg q3 rfl
  let Z : DS := S A T C P Du To (some (.dat (.int L)))
  have hv := told_nice g
  have hsh := told_shown g
  have t9 : Rn (orT (rNotT (rT (rC (callD (fr_u_law_alike 6) [false, false]) (rAc (rC (callD f_told_paper [false]) (rAc (getSl 2) rA0)) (rAc (getSl 5) rA0))))) (rNotT (rT (rC (callD f_u_law_right [false, false, false]) (rAc (getSl 2) (rAc (getSl 3) (rAc (getSl 5) rA0))))))) Z false := by
    have p1 := ev_call (s := Z) (ms := [false]) (es := [tksD ts]) (fr := rAc (getSl 2) rA0) (ra_cons (ev_get rfl) ra_nil) (run_told_paper (by omega) g.parOk g.less)
    have p2 := ev_call (s := Z) (ms := [false, false]) (es := [papD (told ts), papD (told ts)]) (ra_cons p1 (ra_cons (ev_get (k := 5) rfl) ra_nil)) (alk_pap (n := 2) (told ts) (by rw [hv.len]; omega) fun r hr => by
      obtain ⟨i, hi, rfl⟩ := List.mem_iff_getElem.mp hr
      have h := (hv.ok i _ (List.getElem?_eq_getElem hi)).2.2.length_le
      have := kids_len ts i
      omega)
    have p3 := ev_call (s := Z) (ms := [false, false, false]) (es := [tksD ts, .list (belowL ts), papD (told ts)]) (fr := rAc (getSl 2) (rAc (getSl 3) (rAc (getSl 5) rA0))) (ra_cons (ev_get rfl) (ra_cons (ev_get rfl) (ra_cons (ev_get rfl) ra_nil))) (run_law_right (by omega) hv)
    rw [hsh] at p3
    exact rt_or (x := false) (y := false) (rt_not (rt_val p2)) fun _ => rt_not (rt_val p3)
  have prv (s : DS) (k : Nat) (z : Int) (h2 : s[2]? = some T) (h5 : s[5]? = some Du) (hk : s[k]? = some (some (.dat (.int z)))) : Ev (rC (callD f_proves_least [false, false, false]) (rAc (getSl 2) (rAc (getSl k) (rAc (getSl 5) rA0)))) s (.bool (decide (L = z))) := by
    have q := ev_call (s := s) (ms := [false, false, false]) (es := [tksD ts, .int z, papD (told ts)]) (fr := rAc (getSl 2) (rAc (getSl k) (rAc (getSl 5) rA0))) (ra_cons (ev_get h2) (ra_cons (ev_get hk) (ra_cons (ev_get h5) ra_nil))) (nice_proves g z (by decide) hv)
    rw [hsh, bds_told, Bool.true_and] at q
    exact q
  have t10 : Rn (orT (rT (rO (gIsB true) (rC (callD f_proves_least [false, false, false]) (rAc (getSl 2) (rAc (getSl 7) (rAc (getSl 5) rA0)))) (rB true))) (rT (rO gNe (lcD [17] (rItems (rC mkL (rAc (rO gSub (getSl 7) (rI 1)) (rAc (rO gAdd (getSl 7) (rI 1)) rA0)))) (putSl 17) (rT (rO (gIsB true) (rC (callD f_proves_least [false, false, false]) (rAc (getSl 2) (rAc (getSl 17) (rAc (getSl 5) rA0)))) (rB false))) (getSl 17)) (rC mkL rA0)))) Z false := by
    have p1 := rt_val (ev_notB (prv Z 7 L rfl rfl rfl) (ev_bool (x := true)))
    rw [decide_eq_true rfl] at p1
    refine rt_or (x := false) (y := false) p1 fun _ => ?_
    have it : Rn (rItems (rC mkL (rAc (rO gSub (getSl 7) (rI 1)) (rAc (rO gAdd (getSl 7) (rI 1)) rA0)))) Z ([L - 1, L + 1].map .int) := it_new (rn_lst (es := [.int (L - 1), .int (L + 1)]) (ra_cons (ev_sub (ev_get rfl) ev_int) (ra_cons (ev_add (ev_get rfl) ev_int) ra_nil)) (show 2 ≤ 16777216 by decide)) rfl
    have q := lc_T (vs := [17]) (g := putSl 17) (ft := rT (rO (gIsB true) (rC (callD f_proves_least [false, false, false]) (rAc (getSl 2) (rAc (getSl 17) (rAc (getSl 5) rA0)))) (rB false))) (fe := getSl 17) (s := Z) (l := [L - 1, L + 1]) PyData.int (fun _ => false) PyData.int it rfl (show 2 ≤ 16777216 by decide) fun z hz => by
      refine ⟨Z.set 17 (some (.dat (.int z))), rfl, rfl, ?_, fun _ => ev_get rfl⟩
      have hne : L ≠ z := by
        simp only [List.mem_cons, List.not_mem_nil, or_false] at hz
        omega
      have q := rt_val (ev_notB (prv (Z.set 17 (some (.dat (.int z)))) 17 z rfl rfl rfl) (ev_bool (x := false)))
      rw [decide_eq_false hne] at q
      exact q
    rw [List.filter_eq_nil_iff.mpr (fun a _ => by simp)] at q
    exact rt_val (ev_neNil (k := 0) q rfl fun x hx => by cases hx)
  have t11 := rt_val (ev_eqNilT (s := Z) (k := 1) (ev_get (k := 2) (d := tksD ts) rfl) rfl fun x hx => by
    obtain ⟨t, _, rfl⟩ := List.mem_map.mp hx
    exact shp_tk t)
  have pre : ∀ (f : M Fl) (r : Option (Res Fl)), f Z = r → (thenS (rAsg (rC (callD f_u_law_draws [false]) (rAc (getSl 0) rA0)) (putSl 1))
 (thenS (setF 2 (rC (callD f_u_law_tasks [true, false, false]) (rAc (getSl 1) (rAc (rI 8) (rAc (rI 15) rA0)))))
 (thenS (setF 3 (rC (callD f_u_law_children [false]) (rAc (getSl 2) rA0)))
 (thenS (rIf (rT (rO gNe (lcD [13] (rItems (getSl 3)) (putSl 13) (rT (rO gGt (rC gLen (rAc (getSl 13) rA0)) (rI 5))) (getSl 13)) (rC mkL rA0)))
 (rRet (rB true))
 (pure .nx))
 (thenS (setF 4 (rC (callD f_u_law_least [false]) (rAc (getSl 2) rA0)))
 (thenS (rAsg (rC gTuple (rAc (lcD [15] (rGo rng1 (rAc (rC gLen (rAc (getSl 2) rA0)) rA0)) (putSl 15) (pure true) (rC mkT (rAc (rO gIx (getSl 4) (getSl 15)) (rAc (rC (callD f_u_law_some [false, false, false, false]) (rAc (getSl 2) (rAc (getSl 4) (rAc (getSl 3) (rAc (getSl 15) rA0))))) rA0)))) rA0)) (putSl 5))
 (thenS (thenFrz 6 (rAsg (lcD [15] (rGo rng1 (rAc (rC gLen (rAc (getSl 2) rA0)) rA0)) (putSl 15) (rT (rO (gIsN false) (rO gIx (rO gIx (getSl 2) (getSl 15)) (rI 0)) rN)) (getSl 15)) (putSl 6)))
 (thenS (rAsg (rC gMax (rAc (rO gAdd (lcD [16] (rItems (getSl 6)) (putSl 16) (pure true) (rO gIx (getSl 4) (getSl 16))) (rC mkL (rAc (rI 0) rA0))) rA0)) (putSl 7))
 f)))))))) (S none none none none none none none) = r := fun f r h =>
    (then_nx g1).trans ((then_nx g2).trans ((then_nx g3).trans ((then_nx ((st_if t4).trans rfl)).trans ((then_nx g5).trans ((then_nx g6).trans ((then_nx g7).trans ((then_nx g8).trans h)))))))
  by_cases ne : ts = []
  · subst ne
    refine runF_dat (n := 18) (b := b_law) (es := [sc]) (s1 := Z) (pre _ _ ?_)
    refine (then_nx ((st_if t9).trans rfl)).trans ((then_nx ((st_if t10).trans rfl)).trans (then_rt ((st_if t11).trans ?_)))
    have p1 := ev_call (s := Z) (ms := [false, false]) (es := [.tuple [], .tuple []]) (fr := rAc (rC mkT rA0) (rAc (rC mkT rA0) rA0)) (ra_cons (ev_tup (es := []) ra_nil (Nat.zero_le _)) (ra_cons (ev_tup (es := []) ra_nil (Nat.zero_le _)) ra_nil)) (nice_paper (ts := []) (v := []) g (B := 0) (by decide) ⟨rfl, fun i r h => by simp at h⟩)
    have p2 := ev_call (s := Z) (ms := [false, false]) (es := [.tuple [], .none]) (fr := rAc (rC mkT rA0) (rAc rN rA0)) (ra_cons (ev_tup (es := []) ra_nil (Nat.zero_le _)) (ra_cons ev_none ra_nil)) (run_is_paper_kind (ts := []) (v := .none) fun es e => by cases e)
    exact st_ret (ev_and (x := true) (y := true) (ev_isB p1 ev_bool) fun _ => ev_isB p2 ev_bool)
  · have hne : (ts.map tkD).isEmpty = false := by
      cases ts with
      | nil => exact absurd rfl ne
      | cons t r => rfl
    rw [hne] at t11
    obtain ⟨s', h1, xs', tu, va, st, go, sa, h2⟩ := for_idx (s := Z) (g := putSl 8) (fb := turnBody) nD 8 (fun _ s => ∃ (xs : List Int) (tu va st go sa : Option D), s = LS sc xs ts L (tu.map .dat) (va.map .dat) (st.map .dat) (go.map .dat) (sa.map .dat) none none) ⟨xs1, none, none, none, none, none, rfl⟩ fun i s hi ⟨xs, tu, va, st, go, sa, es⟩ => by
      subst es
      obtain ⟨s', q1, xs', va', st', go', sa', q2⟩ := run_turn g ne sc xs (some (nD i)) va st go sa
      exact ⟨LS sc xs ts L (some (.dat (nD i))) (va.map .dat) (st.map .dat) (go.map .dat) (sa.map .dat) none none, s', by cases tu <;> rfl, q1, xs', some (nD i), va', st', go', sa', q2⟩
    subst h2
    obtain ⟨s'', h3⟩ := run_tail g (List.length_pos_iff.mpr ne) sc xs' tu va st go sa none
    refine runF_dat (n := 18) (b := b_law) (es := [sc]) (s1 := s'') (pre _ _ ?_)
    exact (then_nx ((st_if t9).trans rfl)).trans ((then_nx ((st_if t10).trans rfl)).trans ((then_nx ((st_if t11).trans rfl)).trans ((then_nx (((it_const (n := 8) (by decide)).bind).trans h1)).trans h3)))
end Den
open PySem PySem.W PyProof.Rows
set_option maxRecDepth 100000 in
set_option maxHeartbeats 0 in
theorem PySem.Challenge.cw_factorsagree_k70_whole_papers_of_peaks_holds : PySem.Challenge.rw_factorsagree_k70_whole_papers_of_peaks.Holds := by
  w_on; o_law; k_head; (case hw => w_witness2)
  k_fill
  refine LamX.walk_ofTsX (l := PySem.Challenge.rw_factorsagree_k70_whole_papers_of_peaks) (n := 63) (k := 8) (x := "script") (CX := fun w => L2.CX PySem.Challenge.rw_factorsagree_k70_whole_papers_of_peaks.prog w) rfl (by decide) rfl ⟨rfl, by decide, by decide⟩ (fun w h Y => PySem.W.km_in_of Y) ?F (fun _ _ _ _ _ => Den.cx_no _ _ _ _)
  case F =>
    intro w mg mb fa h mean Y XP Tp KX G hmg
    refine' Den.all_mk KX G Tp hmg (Den.cst_of XP (by repeat (first | exact List.mem_cons_self | apply List.mem_cons_of_mem))) ?m_MOST_TASKS ?m_MOST_CELLS ?t_in_turn ?r_in_turn ?n_in_turn ?t_are_some ?r_are_some ?n_are_some ?t_is_paper ?r_is_paper ?n_is_paper ?nd ?a_is_number ?l_is_number ?c_is_number ?k_is_number ?a_children_in ?l_children_in ?c_children_in ?k_children_in ?a_tops_in ?l_tops_in ?c_tops_in ?k_tops_in ?a_in_turn ?l_in_turn ?c_in_turn ?k_in_turn ?a_least_peaks ?l_least_peaks ?c_least_peaks ?k_least_peaks ?a_last_bound ?l_last_bound ?c_last_bound ?k_last_bound ?a_told_some ?l_told_some ?c_told_some ?k_told_some ?a_told_paper ?l_told_paper ?c_told_paper ?k_told_paper ?a_is_shown ?l_is_shown ?c_is_shown ?k_is_shown ?a_are_some ?l_are_some ?c_are_some ?k_are_some ?a_is_paper ?l_is_paper ?c_is_paper ?k_is_paper ?a_proves_least ?l_proves_least ?c_proves_least ?k_proves_least ?a_u_law_draws ?l_u_law_draws ?c_u_law_draws ?k_u_law_draws ?a_u_law_take ?l_u_law_take ?c_u_law_take ?k_u_law_take ?a_u_law_alike ?l_u_law_alike ?c_u_law_alike ?k_u_law_alike ?a_u_law_tasks ?l_u_law_tasks ?c_u_law_tasks ?k_u_law_tasks ?a_u_law_children ?l_u_law_children ?c_u_law_children ?k_u_law_children ?a_u_law_joined ?l_u_law_joined ?c_u_law_joined ?k_u_law_joined ?a_u_law_least ?l_u_law_least ?c_u_law_least ?k_u_law_least ?a_u_law_turn ?l_u_law_turn ?c_u_law_turn ?k_u_law_turn ?a_u_law_some ?l_u_law_some ?c_u_law_some ?k_u_law_some ?a_u_law_right ?l_u_law_right ?c_u_law_right ?k_u_law_right ?a_u_law_bent ?l_u_law_bent ?c_u_law_bent ?k_u_law_bent ?a_law ?l_law ?c_law ?k_law ?z_abs ?z_all ?z_any ?z_bool ?z_dict ?z_enumerate ?z_int ?z_isinstance ?z_len ?z_list ?z_max ?z_min ?z_range ?z_reversed ?z_sorted ?z_str ?z_sum ?z_tuple ?plain
    (case m_MOST_TASKS => k_is)
    (case m_MOST_CELLS => k_is)
    (case t_in_turn => with_unfolding_all rfl)
    (case r_in_turn => rfl)
    (case n_in_turn => with_unfolding_all rfl)
    (case t_are_some => with_unfolding_all rfl)
    (case r_are_some => rfl)
    (case n_are_some => with_unfolding_all rfl)
    (case t_is_paper => with_unfolding_all rfl)
    (case r_is_paper => rfl)
    (case n_is_paper => with_unfolding_all rfl)
    (case nd => decide)
    (case a_is_number => k_is)
    (case l_is_number => k_is)
    (case c_is_number => k_is)
    (case k_is_number => k_is)
    (case a_children_in => k_is)
    (case l_children_in => k_is)
    (case c_children_in => k_is)
    (case k_children_in => k_is)
    (case a_tops_in => k_is)
    (case l_tops_in => k_is)
    (case c_tops_in => k_is)
    (case k_tops_in => k_is)
    (case a_in_turn => k_is)
    (case l_in_turn => k_is)
    (case c_in_turn => k_is)
    (case k_in_turn => k_is)
    (case a_least_peaks => k_is)
    (case l_least_peaks => k_is)
    (case c_least_peaks => k_is)
    (case k_least_peaks => k_is)
    (case a_last_bound => k_is)
    (case l_last_bound => k_is)
    (case c_last_bound => k_is)
    (case k_last_bound => k_is)
    (case a_told_some => k_is)
    (case l_told_some => k_is)
    (case c_told_some => k_is)
    (case k_told_some => k_is)
    (case a_told_paper => k_is)
    (case l_told_paper => k_is)
    (case c_told_paper => k_is)
    (case k_told_paper => k_is)
    (case a_is_shown => k_is)
    (case l_is_shown => k_is)
    (case c_is_shown => k_is)
    (case k_is_shown => k_is)
    (case a_are_some => k_is)
    (case l_are_some => k_is)
    (case c_are_some => k_is)
    (case k_are_some => k_is)
    (case a_is_paper => k_is)
    (case l_is_paper => k_is)
    (case c_is_paper => k_is)
    (case k_is_paper => k_is)
    (case a_proves_least => k_is)
    (case l_proves_least => k_is)
    (case c_proves_least => k_is)
    (case k_proves_least => k_is)
    (case a_u_law_draws => k_is)
    (case l_u_law_draws => k_is)
    (case c_u_law_draws => k_is)
    (case k_u_law_draws => k_is)
    (case a_u_law_take => k_is)
    (case l_u_law_take => k_is)
    (case c_u_law_take => k_is)
    (case k_u_law_take => k_is)
    (case a_u_law_alike => k_is)
    (case l_u_law_alike => k_is)
    (case c_u_law_alike => k_is)
    (case k_u_law_alike => k_is)
    (case a_u_law_tasks => k_is)
    (case l_u_law_tasks => k_is)
    (case c_u_law_tasks => k_is)
    (case k_u_law_tasks => k_is)
    (case a_u_law_children => k_is)
    (case l_u_law_children => k_is)
    (case c_u_law_children => k_is)
    (case k_u_law_children => k_is)
    (case a_u_law_joined => k_is)
    (case l_u_law_joined => k_is)
    (case c_u_law_joined => k_is)
    (case k_u_law_joined => k_is)
    (case a_u_law_least => k_is)
    (case l_u_law_least => k_is)
    (case c_u_law_least => k_is)
    (case k_u_law_least => k_is)
    (case a_u_law_turn => k_is)
    (case l_u_law_turn => k_is)
    (case c_u_law_turn => k_is)
    (case k_u_law_turn => k_is)
    (case a_u_law_some => k_is)
    (case l_u_law_some => k_is)
    (case c_u_law_some => k_is)
    (case k_u_law_some => k_is)
    (case a_u_law_right => k_is)
    (case l_u_law_right => k_is)
    (case c_u_law_right => k_is)
    (case k_u_law_right => k_is)
    (case a_u_law_bent => k_is)
    (case l_u_law_bent => k_is)
    (case c_u_law_bent => k_is)
    (case k_u_law_bent => k_is)
    (case a_law => k_is)
    (case l_law => k_is)
    (case c_law => k_is)
    (case k_law => k_is)
    (case z_abs => k_is)
    (case z_all => k_is)
    (case z_any => k_is)
    (case z_bool => k_is)
    (case z_dict => k_is)
    (case z_enumerate => k_is)
    (case z_int => k_is)
    (case z_isinstance => k_is)
    (case z_len => k_is)
    (case z_list => k_is)
    (case z_max => k_is)
    (case z_min => k_is)
    (case z_range => k_is)
    (case z_reversed => k_is)
    (case z_sorted => k_is)
    (case z_str => k_is)
    (case z_sum => k_is)
    (case z_tuple => k_is)
    (case plain => exact Den.plain_law)
