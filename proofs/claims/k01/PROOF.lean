import PyProof.Rows.All
import Wide.All
import OpenK.AllK
import Wide.FinOn
import HandS.ForMost
import HandS.Exc
import HandS.TryOnly
import HandS.TryMany
import HandS.ExcCtx
import HandS.HotCalls
import HandS.ExcOwn
import HandS.WordsExc
import HandS.CallSlots
import HandS.Deep
import HandS.Codes
import HandS.TupAny
import HandS.TupMul
import HandS.Lambda
import HandS.EndTab
import HandS.HeadHook4
import HandS.More
import HandS.IsInst
import HandS.Defaults
import HandS.SortInts
import KE.DataFind
import HandS.ExcIs
import KE.KTupSum
import KE.KEqNest
import KE.KDictPairs
import KE.KDflt
import HandS.ReplaceList
import PySem.Challenge.RW_lookcache_k01_kinds_looked_up
import HandS.Head0
import HandS.Head1
import HandS.Head2
import HandS.HeadEnd
import HandS.HeadHook1
import HandS.HeadHook2
import HandS.HeadWalk
set_option Elab.async false
set_option linter.all false
set_option maxRecDepth 100000
set_option maxHeartbeats 2000000
/-! The logical layer: values as trees, a heap of the mutable things alone. -/
namespace LK
open PySem PySem.Spec PyProof.Rows L2
abbrev St := List (Option V)

/-- a logical value: a tuple and a list that nobody writes any more are trees; a thing that is written to is an address -/
inductive LV where
  | non | bl (b : Bool) | int (i : Int) | str (x : Str) | ref (a : Addr) | ty (n : String)
  | tup (xs : List LV) | lst (xs : List LV) | wl (xs : List LV) | wt (xs : List LV)
/-- what stands at an address -/
inductive LO where
  | lst (xs : List LV)
  | dct (kvs : List (Key × LV))
  | dtt (kvs : List (List Key × LV))
  | fdt (od : Obj) (ys : List (List Key × V)) (kvs : List (List Key × LV))
  | ins (C : Addr) (fs : List (Str × LV))
abbrev LHp := Addr → Option LO
def lup (L : LHp) (a : Addr) (o : LO) : LHp := fun b => if b = a then some o else L b
def ler (L : LHp) (a : Addr) : LHp := fun b => if b = a then none else L b
theorem lup_same {L : LHp} {a : Addr} {o : LO} : lup L a o a = some o := if_pos rfl
theorem lup_ne {L : LHp} {a b : Addr} {o : LO} (h : b ≠ a) : lup L a o b = L b := if_neg h
theorem ler_same {L : LHp} {a : Addr} : ler L a a = none := if_pos rfl
theorem ler_ne {L : LHp} {a b : Addr} (h : b ≠ a) : ler L a b = L b := if_neg h
theorem ler_lup {L : LHp} {a : Addr} {o : LO} (h : L a = none) : ler (lup L a o) a = L := by
  funext b
  by_cases e : b = a
  · subst e
    rw [ler_same, h]
  · rw [ler_ne e, lup_ne e]
theorem lup_lup {L : LHp} {a : Addr} {o u : LO} : lup (lup L a o) a u = lup L a u := by
  funext b
  unfold lup
  split <;> rfl

/-- a list, a tuple that is read and never written again -/
def FzL (L : LHp) (H : Hp) (p : Addr) (xs : List V) : Prop := L p = none ∧ H p = some (.lst xs)
def WtT (K : PySem.W.Frag) (a : Addr) (xs : List V) : Prop :=
  ∃ (o : Obj) (its : Array Value) (n : Nat), K.lookup a = some o ∧ o.cls = .type "tuple" ∧ o.data = .seq its n ∧ its.size ≤ sizeLine ∧ Vals xs its.toList
def FzT (L : LHp) (H : Hp) (p : Addr) (xs : List V) : Prop := L p = none ∧ H p = some (.tup xs)
def WtL (K : PySem.W.Frag) (a : Addr) (xs : List V) : Prop :=
  ∃ (o : Obj) (its : Array Value) (n : Nat), K.lookup a = some o ∧ o.cls = .type "list" ∧ o.dict = none ∧ o.data = .seq its n ∧ its.size ≤ sizeLine ∧ Vals xs its.toList
def FzW (K : PySem.W.Frag) (L : LHp) (H : Hp) (p : Addr) (xs : List V) : Prop := (L p = none ∧ Rd H p (.lst xs)) ∨ WtL K p xs
theorem FzL.sq {K : PySem.W.Frag} {L : LHp} {H : Hp} {p : Addr} {xs : List V} (h : FzL L H p xs) : SqL K H p xs := .inl (.inl h.2)
theorem FzT.sq {K : PySem.W.Frag} {L : LHp} {H : Hp} {p : Addr} {xs : List V} (h : FzT L H p xs) : SqT K H p xs := .inl (.inl h.2)
theorem WtT.sq {K : PySem.W.Frag} {H : Hp} {p : Addr} {xs : List V} (h : WtT K p xs) : SqT K H p xs := .inr h
theorem FzW.sq {K : PySem.W.Frag} {L : LHp} {H : Hp} {p : Addr} {xs : List V} (h : FzW K L H p xs) : SqL K H p xs := by
  rcases h with h | h
  · exact .inl h.2
  · exact .inr h

mutual
def RV (K : PySem.W.Frag) (L : LHp) (H : Hp) : LV → V → Prop
  | .non, v => v = .non
  | .bl b, v => v = .bl b
  | .int i, v => v = .int i
  | .str x, v => v = .str x
  | .ref a, v => v = .ref a
  | .ty n, v => v = .ty n
  | .tup ls, v => ∃ p xs, v = .ref p ∧ FzT L H p xs ∧ RVs K L H ls xs
  | .wt ls, v => ∃ p xs, v = .ref p ∧ WtT K p xs ∧ RVs K L H ls xs
  | .lst ls, v => ∃ p xs, v = .ref p ∧ FzL L H p xs ∧ RVs K L H ls xs
  | .wl ls, v => ∃ p xs, v = .ref p ∧ FzW K L H p xs ∧ RVs K L H ls xs
def RVs (K : PySem.W.Frag) (L : LHp) (H : Hp) : List LV → List V → Prop
  | [], xs => xs = []
  | l :: ls, xs => ∃ x r, xs = x :: r ∧ RV K L H l x ∧ RVs K L H ls r
end
def RKV {κ : Type} (K : PySem.W.Frag) (L : LHp) (H : Hp) : List (κ × LV) → List (κ × V) → Prop
  | [], ys => ys = []
  | kl :: ls, ys => ∃ v r, ys = (kl.1, v) :: r ∧ RV K L H kl.2 v ∧ RKV K L H ls r
def RO (K : PySem.W.Frag) (L : LHp) (H : Hp) : LO → HO → Prop
  | .lst ls, o => ∃ xs, o = .lst xs ∧ RVs K L H ls xs
  | .dct kvs, o => ∃ ys, o = .dK ys ∧ RKV K L H kvs ys
  | .dtt kvs, o => ∃ ys, o = .dT ys ∧ RKV K L H kvs ys
  | .fdt od ys kvs, o => o = .frz od (.dT ys) ∧ RKV K L H kvs ys
  | .ins C fs, o => ∃ dx ys, o = .ins C dx ys ∧ RKV K L H fs ys
/-- the def that makes lambdas, by what the head tells -/
def lamDef (K : PySem.W.Frag) : Str := match PySem.W.nsIn K mainGlobals "Near" with
  | some (some (.ref _)) => "law"
  | _ => "_law_is"
/-- its table of code objects -/
def tabK (K : PySem.W.Frag) : List (Addr × Str) := match PySem.W.nsIn K mainGlobals "_law_kind" with
  | some (some (.ref _)) => [((He.cT K (lamDef K, none)).2, (lamDef K ++ ".<locals>.") ++ "<lambda>")]
  | _ => []
structure RH (K : PySem.W.Frag) (L : LHp) (H : Hp) : Prop where
  at_ : ∀ a lo, L a = some lo → ∃ o, H a = some o ∧ RO K L H lo o
  tb : LamX.Tabs (tabK K) H
  nt : ∀ p ∈ tabK K, L p.1 = none
theorem RO.no_ext {K : PySem.W.Frag} {L : LHp} {H : Hp} {lo : LO} {F : Heap → Prop} (h : RO K L H lo (.ext F)) : False := by
  cases lo with
  | lst ls => obtain ⟨_, e, _⟩ := h; cases e
  | dct ls => obtain ⟨_, e, _⟩ := h; cases e
  | dtt ls => obtain ⟨_, e, _⟩ := h; cases e
  | fdt od ys ls => obtain ⟨e, _⟩ := h; cases e
  | ins C fs => obtain ⟨_, _, e, _⟩ := h; cases e
theorem tabS_of {H H' : Hp} {P : Addr} {q : Str} (t : LamX.TabS H P q) (h1 : H' P = H P) (h2 : ∀ c, H c = some (LamX.CodeO c q) → H' c = H c) : LamX.TabS H' P q := by
  obtain ⟨ps, e1, e2, e3⟩ := t
  refine ⟨ps, by rw [h1]; exact e1, e2, fun pos cv hc => ?_⟩
  obtain ⟨c, ec, hcc⟩ := e3 pos cv hc
  exact ⟨c, ec, by rw [h2 c hcc]; exact hcc⟩
theorem tabs_of {T : List (Addr × Str)} {H H' : Hp} (t : LamX.Tabs T H) (h1 : ∀ p ∈ T, H' p.1 = H p.1) (h2 : ∀ c q, H c = some (LamX.CodeO c q) → H' c = H c) : LamX.Tabs T H' := fun p hp => tabS_of (t p hp) (h1 p hp) fun c hc => h2 c _ hc
theorem tabs_some {T : List (Addr × Str)} {H : Hp} (t : LamX.Tabs T H) {p : Addr × Str} (hp : p ∈ T) : H p.1 ≠ none := by
  obtain ⟨ps, e, _⟩ := t p hp
  rw [e]
  exact nofun
/-- what is out of the logical heap stands as it is -/
def Ext (L : LHp) (H : Hp) (L' : LHp) (H' : Hp) : Prop := ∀ p o, H p = some o → (∀ ps, o ≠ .tbl ps) → L p = none → L' p = none ∧ H' p = some o
theorem Ext.refl {L : LHp} {H : Hp} : Ext L H L H := fun _ _ h1 _ h2 => ⟨h2, h1⟩
theorem Ext.trans {L L1 L2 : LHp} {H H1 H2 : Hp} (a : Ext L H L1 H1) (b : Ext L1 H1 L2 H2) : Ext L H L2 H2 := fun p o h1 hn h2 =>
  let ⟨n, e⟩ := a p o h1 hn h2
  b p o e hn n
section
variable {K : PySem.W.Frag} {L L' : LHp} {H H' : Hp}
theorem FzL.ext {p : Addr} {xs : List V} (h : FzL L H p xs) (e : Ext L H L' H') : FzL L' H' p xs := e p _ h.2 (fun _ z => nomatch z) h.1
theorem FzT.ext {p : Addr} {xs : List V} (h : FzT L H p xs) (e : Ext L H L' H') : FzT L' H' p xs := e p _ h.2 (fun _ z => nomatch z) h.1
theorem FzW.ext {p : Addr} {xs : List V} (h : FzW K L H p xs) (e : Ext L H L' H') : FzW K L' H' p xs := by
  rcases h with ⟨h, q | ⟨o, q⟩⟩ | h
  · exact .inl ⟨(e p _ q (fun _ z => nomatch z) h).1, .inl (e p _ q (fun _ z => nomatch z) h).2⟩
  · exact .inl ⟨(e p _ q (fun _ z => nomatch z) h).1, .inr ⟨o, (e p _ q (fun _ z => nomatch z) h).2⟩⟩
  · exact .inr h
mutual
theorem RV.ext (e : Ext L H L' H') : ∀ (l : LV) (v : V), RV K L H l v → RV K L' H' l v
  | .non, v, h => h
  | .bl b, v, h => h
  | .int i, v, h => h
  | .str x, v, h => h
  | .ref a, v, h => h
  | .ty n, v, h => h
  | .tup ls, v, h => by
    unfold RV at h ⊢
    obtain ⟨p, xs, e1, f, r⟩ := h
    exact ⟨p, xs, e1, f.ext e, RVs.ext e ls xs r⟩
  | .wt ls, v, h => by
    unfold RV at h ⊢
    obtain ⟨p, xs, e1, f, r⟩ := h
    exact ⟨p, xs, e1, f, RVs.ext e ls xs r⟩
  | .lst ls, v, h => by
    unfold RV at h ⊢
    obtain ⟨p, xs, e1, f, r⟩ := h
    exact ⟨p, xs, e1, f.ext e, RVs.ext e ls xs r⟩
  | .wl ls, v, h => by
    unfold RV at h ⊢
    obtain ⟨p, xs, e1, f, r⟩ := h
    exact ⟨p, xs, e1, f.ext e, RVs.ext e ls xs r⟩
theorem RVs.ext (e : Ext L H L' H') : ∀ (ls : List LV) (xs : List V), RVs K L H ls xs → RVs K L' H' ls xs
  | [], xs, h => h
  | l :: ls, xs, h => by
    unfold RVs at h ⊢
    obtain ⟨x, r, e1, h1, h2⟩ := h
    exact ⟨x, r, e1, RV.ext e l x h1, RVs.ext e ls r h2⟩
end
theorem RKV.ext {κ : Type} (e : Ext L H L' H') : ∀ (ls : List (κ × LV)) (ys : List (κ × V)), RKV K L H ls ys → RKV K L' H' ls ys
  | [], ys, h => h
  | l :: ls, ys, h => by
    obtain ⟨v, r, e1, h1, h2⟩ := h
    exact ⟨v, r, e1, RV.ext e _ v h1, RKV.ext e ls r h2⟩
theorem RO.ext (e : Ext L H L' H') : ∀ (lo : LO) (o : HO), RO K L H lo o → RO K L' H' lo o
  | .lst ls, o, h => let ⟨xs, e1, r⟩ := h; ⟨xs, e1, RVs.ext e _ _ r⟩
  | .dct kvs, o, h => let ⟨xs, e1, r⟩ := h; ⟨xs, e1, RKV.ext e _ _ r⟩
  | .dtt kvs, o, h => let ⟨xs, e1, r⟩ := h; ⟨xs, e1, RKV.ext e _ _ r⟩
  | .fdt _ _ kvs, o, h => ⟨h.1, RKV.ext e _ _ h.2⟩
  | .ins C fs, o, h => let ⟨dx, ys, e1, r⟩ := h; ⟨dx, ys, e1, RKV.ext e _ _ r⟩
/-! ### lists of values -/
theorem RVs.length : ∀ {ls : List LV} {xs : List V}, RVs K L H ls xs → xs.length = ls.length
  | [], xs, h => by
    unfold RVs at h
    rw [h]
    rfl
  | l :: ls, xs, h => by
    unfold RVs at h
    obtain ⟨x, r, e1, h1, h2⟩ := h
    rw [e1, List.length_cons, List.length_cons, RVs.length h2]
theorem RVs.get : ∀ {ls : List LV} {xs : List V} {i : Nat} {l : LV}, RVs K L H ls xs → ls[i]? = some l → ∃ x, xs[i]? = some x ∧ RV K L H l x
  | [], xs, i, l, h, e => by simp at e
  | l0 :: ls, xs, 0, l, h, e => by
    unfold RVs at h
    obtain ⟨x, r, e1, h1, h2⟩ := h
    have e' : l0 = l := by simpa using e
    subst e'
    exact ⟨x, by rw [e1]; rfl, h1⟩
  | l0 :: ls, xs, i + 1, l, h, e => by
    unfold RVs at h
    obtain ⟨x, r, e1, h1, h2⟩ := h
    obtain ⟨y, e2, r2⟩ := RVs.get (i := i) h2 (by simpa using e)
    exact ⟨y, by rw [e1]; simpa using e2, r2⟩
theorem RVs.set : ∀ {ls : List LV} {xs : List V} (i : Nat) {l : LV} {x : V}, RVs K L H ls xs → RV K L H l x → RVs K L H (ls.set i l) (xs.set i x)
  | [], xs, i, l, x, h, r => by
    unfold RVs at h
    rw [h]
    unfold RVs
    rfl
  | l0 :: ls, xs, 0, l, x, h, r => by
    unfold RVs at h
    obtain ⟨y, q, e1, h1, h2⟩ := h
    rw [e1]
    show RVs K L H (l :: ls) (x :: q)
    unfold RVs
    exact ⟨x, q, rfl, r, h2⟩
  | l0 :: ls, xs, i + 1, l, x, h, r => by
    unfold RVs at h
    obtain ⟨y, q, e1, h1, h2⟩ := h
    rw [e1]
    show RVs K L H (l0 :: ls.set i l) (y :: q.set i x)
    unfold RVs
    exact ⟨y, _, rfl, h1, RVs.set i h2 r⟩
theorem RVs.append : ∀ {ls ms : List LV} {xs ys : List V}, RVs K L H ls xs → RVs K L H ms ys → RVs K L H (ls ++ ms) (xs ++ ys)
  | [], ms, xs, ys, h, g => by
    unfold RVs at h
    rw [h]
    exact g
  | l0 :: ls, ms, xs, ys, h, g => by
    unfold RVs at h
    obtain ⟨y, q, e1, h1, h2⟩ := h
    rw [e1]
    show RVs K L H (l0 :: (ls ++ ms)) (y :: (q ++ ys))
    unfold RVs
    exact ⟨y, _, rfl, h1, RVs.append h2 g⟩
theorem RVs.nil : RVs K L H [] [] := by
  unfold RVs
  rfl
theorem RVs.cons {l : LV} {ls : List LV} {x : V} {xs : List V} (h : RV K L H l x) (r : RVs K L H ls xs) : RVs K L H (l :: ls) (x :: xs) := by
  unfold RVs
  exact ⟨x, xs, rfl, h, r⟩
theorem RVs.snoc {ls : List LV} {l : LV} {x : V} {xs : List V} (r : RVs K L H ls xs) (h : RV K L H l x) : RVs K L H (ls ++ [l]) (xs ++ [x]) := r.append (.cons h .nil)
theorem RVs.take : ∀ {ls : List LV} {xs : List V} (n : Nat), RVs K L H ls xs → RVs K L H (ls.take n) (xs.take n)
  | ls, xs, 0, _ => by
    rw [List.take_zero, List.take_zero]
    exact .nil
  | [], xs, n + 1, h => by
    unfold RVs at h
    rw [h]
    exact .nil
  | l0 :: ls, xs, n + 1, h => by
    unfold RVs at h
    obtain ⟨y, q, e1, h1, h2⟩ := h
    rw [e1]
    exact .cons h1 (RVs.take n h2)
theorem RVs.drop : ∀ {ls : List LV} {xs : List V} (n : Nat), RVs K L H ls xs → RVs K L H (ls.drop n) (xs.drop n)
  | ls, xs, 0, h => h
  | [], xs, n + 1, h => by
    unfold RVs at h
    rw [h]
    exact .nil
  | l0 :: ls, xs, n + 1, h => by
    unfold RVs at h
    obtain ⟨y, q, e1, h1, h2⟩ := h
    rw [e1]
    exact RVs.drop n h2
theorem RVs.eraseIdx : ∀ {ls : List LV} {xs : List V} (n : Nat), RVs K L H ls xs → RVs K L H (ls.eraseIdx n) (xs.eraseIdx n)
  | [], xs, n, h => by
    unfold RVs at h
    rw [h]
    exact .nil
  | l0 :: ls, xs, 0, h => by
    unfold RVs at h
    obtain ⟨y, q, e1, h1, h2⟩ := h
    rw [e1]
    exact h2
  | l0 :: ls, xs, n + 1, h => by
    unfold RVs at h
    obtain ⟨y, q, e1, h1, h2⟩ := h
    rw [e1]
    exact .cons h1 (RVs.eraseIdx n h2)
theorem RVs.none_of {ls : List LV} {xs : List V} {i : Nat} (r : RVs K L H ls xs) (e : ls[i]? = none) : xs[i]? = none := by
  have h1 := r.length
  have h2 : ls.length ≤ i := List.getElem?_eq_none_iff.mp e
  exact List.getElem?_eq_none_iff.mpr (by omega)
theorem RVs.atI {ls : List LV} {xs : List V} {i : Int} {l : LV} (r : RVs K L H ls xs) (e : L2.atI ls i = some l) : ∃ x, L2.atI xs i = some x ∧ RV K L H l x := by
  unfold L2.atI at e ⊢
  rw [r.length]
  cases q : ixN ls.length i with
  | none => rw [q] at e; cases e
  | some j =>
    rw [q] at e
    exact r.get (show ls[j]? = some l from e)
theorem RVs.ints : ∀ {ns : List Int} {xs : List V}, RVs K L H (ns.map LV.int) xs → xs = ns.map V.int
  | [], xs, h => by
    unfold RVs at h
    exact h
  | n :: ns, xs, h => by
    have h' : RVs K L H (.int n :: ns.map LV.int) xs := h
    unfold RVs at h'
    obtain ⟨y, q, e1, h1, h2⟩ := h'
    rw [e1, RVs.ints h2]
    have h1' : y = V.int n := h1
    rw [h1']
    rfl
theorem RVs.of_ints : ∀ {ns : List Int}, RVs K L H (ns.map LV.int) (ns.map V.int)
  | [] => .nil
  | n :: ns => .cons (show RV K L H (.int n) (.int n) from rfl) (RVs.of_ints (ns := ns))
theorem RVs.strs : ∀ {ns : List Str} {xs : List V}, RVs K L H (ns.map LV.str) xs → xs = ns.map V.str
  | [], xs, h => by
    unfold RVs at h
    exact h
  | n :: ns, xs, h => by
    have h' : RVs K L H (.str n :: ns.map LV.str) xs := h
    unfold RVs at h'
    obtain ⟨y, q, e1, h1, h2⟩ := h'
    rw [e1, RVs.strs h2]
    have h1' : y = V.str n := h1
    rw [h1']
    rfl
theorem RVs.of_strs : ∀ {ns : List Str}, RVs K L H (ns.map LV.str) (ns.map V.str)
  | [] => .nil
  | n :: ns => .cons (show RV K L H (.str n) (.str n) from rfl) (RVs.of_strs (ns := ns))
/-! ### frames -/
abbrev LSt := List (Option LV)
def RS (K : PySem.W.Frag) (L : LHp) (H : Hp) (σl : LSt) (σ : St) : Prop := σl.length = σ.length ∧ ∀ (i : Nat) (l : LV), (σl : List (Option LV))[i]? = some (some l) → ∃ v : V, (σ : List (Option V))[i]? = some (some v) ∧ RV K L H l v
theorem RS.ext {σl : LSt} {σ : St} (r : RS K L H σl σ) (e : Ext L H L' H') : RS K L' H' σl σ :=
  ⟨r.1, fun i l h => let ⟨v, e1, q⟩ := r.2 i l h; ⟨v, e1, q.ext e⟩⟩
theorem RS.set {σl : LSt} {σ : St} (r : RS K L H σl σ) (i : Nat) {l : LV} {v : V} (q : RV K L H l v) : RS K L H (σl.set i (some l)) (σ.set i (some v)) := by
  refine ⟨by rw [List.length_set, List.length_set]; exact r.1, fun j m h => ?_⟩
  by_cases e : i = j
  · subst e
    by_cases hl : i < σl.length
    · rw [List.getElem?_set_self hl] at h
      have h' : l = m := by simpa using h
      subst h'
      exact ⟨v, by rw [List.getElem?_set_self (by rw [← r.1]; exact hl)], q⟩
    · rw [List.getElem?_eq_none (by rw [List.length_set]; omega)] at h
      cases h
  · rw [List.getElem?_set_ne e] at h ⊢
    exact r.2 j m h
theorem RS.forget {σl : LSt} {σ : St} (r : RS K L H σl σ) (i : Nat) (v : Option V) : RS K L H (σl.set i none) (σ.set i v) := by
  refine ⟨by rw [List.length_set, List.length_set]; exact r.1, fun j m h => ?_⟩
  by_cases e : i = j
  · subst e
    by_cases hl : i < σl.length
    · rw [List.getElem?_set_self hl] at h
      cases h
    · rw [List.getElem?_eq_none (by rw [List.length_set]; omega)] at h
      cases h
  · rw [List.getElem?_set_ne e] at h ⊢
    exact r.2 j m h
def lwipe (σ : LSt) : List Nat → LSt
  | [] => σ
  | v :: vs => (lwipe σ vs).set v none
theorem RS.wipe {σl : LSt} {σ : St} (r : RS K L H σl σ) : ∀ vs : List Nat, RS K L H (lwipe σl vs) (L2.wipe σ vs)
  | [] => r
  | v :: vs => (RS.wipe r vs).forget v none
def startL (n : Nat) (ls : List LV) : LSt := ls.map some ++ List.replicate (n - ls.length) none
theorem RS.start {N : List Str} {ls : List LV} {vs : List V} (r : RVs K L H ls vs) : RS K L H (startL N.length ls) (L2.start N vs) := by
  unfold startL L2.start
  refine ⟨by simp [r.length], fun i l h => ?_⟩
  by_cases hi : i < ls.length
  · rw [List.getElem?_append_left (by simpa using hi), List.getElem?_map] at h
    cases e : ls[i]? with
    | none => rw [e] at h; cases h
    | some l' =>
      rw [e] at h
      have e' : l' = l := by simpa using h
      subst e'
      obtain ⟨x, ex, rx⟩ := r.get e
      exact ⟨x, by rw [List.getElem?_append_left (by rw [List.length_map, r.length]; exact hi), List.getElem?_map, ex]; rfl, rx⟩
  · rw [List.getElem?_append_right (by simpa using hi), List.getElem?_replicate] at h
    split at h <;> cases h
/-! ### the heap's steps -/
theorem RH.fresh (r : RH K L H) {p : Addr} (h : H p = none) : L p = none := by
  cases e : L p with
  | none => rfl
  | some lo =>
    obtain ⟨o, q, _⟩ := r.at_ p lo e
    rw [h] at q
    cases q
/-- a new untracked thing -/
theorem Ext.frz {p : Addr} {o : HO} (r : RH K L H) (h : H p = none) : Ext L H L (upd H p o) := fun q u h1 _ h2 => ⟨h2, by rw [upd_ne (ne_of_none h1 h)]; exact h1⟩
theorem RH.frz {p : Addr} {o : HO} (r : RH K L H) (h : H p = none) : RH K L (upd H p o) := ⟨fun a lo e => by
  obtain ⟨u, q, ro⟩ := r.at_ a lo e
  exact ⟨u, by rw [upd_ne (ne_of_none q h)]; exact q, RO.ext (Ext.frz r h) lo u ro⟩, tabs_of r.tb (fun p' hp => upd_ne fun e => tabs_some r.tb hp (by rw [e]; exact h)) fun c q hc => upd_ne (ne_of_none hc h), r.nt⟩
/-- a new tracked thing -/
theorem Ext.new {p : Addr} {o : HO} {lo : LO} (r : RH K L H) (h : H p = none) : Ext L H (lup L p lo) (upd H p o) := fun q u h1 _ h2 => ⟨by rw [lup_ne (ne_of_none h1 h)]; exact h2, by rw [upd_ne (ne_of_none h1 h)]; exact h1⟩
theorem RH.new {p : Addr} {o : HO} {lo : LO} (r : RH K L H) (h : H p = none) (ro : RO K L H lo o) : RH K (lup L p lo) (upd H p o) := ⟨fun a lo' e => by
  by_cases ea : a = p
  · subst ea
    rw [lup_same] at e
    cases e
    exact ⟨o, upd_same, RO.ext (Ext.new r h) _ _ ro⟩
  · rw [lup_ne ea] at e
    obtain ⟨u, q, ro'⟩ := r.at_ a lo' e
    exact ⟨u, by rw [upd_ne ea]; exact q, RO.ext (Ext.new r h) _ _ ro'⟩, tabs_of r.tb (fun p' hp => upd_ne fun e => tabs_some r.tb hp (by rw [e]; exact h)) (fun c q hc => upd_ne (ne_of_none hc h)), fun p' hp => by rw [lup_ne fun e => tabs_some r.tb hp (by rw [e]; exact h)]; exact r.nt p' hp⟩
/-- a tracked thing is changed -/
theorem Ext.upd {p : Addr} {o : HO} {lo : LO} (h : L p ≠ none) : Ext L H (lup L p lo) (upd H p o) := fun q u h1 _ h2 => by
  have ne : q ≠ p := fun e => h (by rw [← e]; exact h2)
  exact ⟨by rw [lup_ne ne]; exact h2, by rw [upd_ne ne]; exact h1⟩
theorem RH.upd {p : Addr} {o : HO} {lo : LO} (r : RH K L H) (h : L p ≠ none) (ro : RO K L H lo o) : RH K (lup L p lo) (upd H p o) := ⟨fun a lo' e => by
  by_cases ea : a = p
  · subst ea
    rw [lup_same] at e
    cases e
    exact ⟨o, upd_same, RO.ext (Ext.upd h) _ _ ro⟩
  · rw [lup_ne ea] at e
    obtain ⟨u, q, ro'⟩ := r.at_ a lo' e
    exact ⟨u, by rw [upd_ne ea]; exact q, RO.ext (Ext.upd h) _ _ ro'⟩, tabs_of r.tb (fun p' hp => upd_ne fun e => h (by rw [← e]; exact r.nt p' hp)) (fun c q hc => upd_ne fun e => by
    cases el : L p with
    | none => exact h el
    | some l =>
      obtain ⟨u, q2, ro'⟩ := r.at_ p l el
      rw [← e, hc] at q2
      cases q2
      exact ro'.no_ext), fun p' hp => by rw [lup_ne fun e => h (by rw [← e]; exact r.nt p' hp)]; exact r.nt p' hp⟩
/-- a tracked thing is let go -/
theorem Ext.let_go {p : Addr} : Ext L H (ler L p) H := fun q u h1 _ h2 => ⟨by by_cases e : q = p; (· rw [e, ler_same]); (· rw [ler_ne e]; exact h2), h1⟩
theorem RH.let_go {p : Addr} (r : RH K L H) : RH K (ler L p) H := ⟨fun a lo e => by
  by_cases ea : a = p
  · rw [ea, ler_same] at e
    cases e
  · rw [ler_ne ea] at e
    obtain ⟨u, q, ro⟩ := r.at_ a lo e
    exact ⟨u, q, RO.ext Ext.let_go lo u ro⟩, r.tb, fun p' hp => by
    by_cases e : p'.1 = p
    · rw [e, ler_same]
    · rw [ler_ne e]; exact r.nt p' hp⟩
end

/-! ### judgements -/
/-- an exception: its class, what its row tells -/
structure Exn where
  c : Addr
  row : Option Int
abbrev XL := Exn → LHp → Prop
abbrev QL := LV → LHp → Prop
abbrev LTE := LSt → LHp → QL → XL → Prop
abbrev LTT := LSt → LHp → (Bool → LHp → Prop) → XL → Prop
abbrev LTA := LSt → LHp → (List LV → LHp → Prop) → XL → Prop
structure LEnds where
  nx : LSt → LHp → Prop
  rt : QL
  bk : LSt → LHp → Prop
  ct : LSt → LHp → Prop
  ex : XL
abbrev LTS := LEnds → LSt → LHp → Prop
/-- how an exception stands -/
def RX (L : LHp) (H : Hp) (e : Exn) (cls : Value) (d : Option Addr) : Prop := cls = .ref e.c ∧ (e.row = none → d = none) ∧ ∀ r, e.row = some r → ∃ dd, d = some dd ∧ L dd = none ∧ H dd = some (.xd [(("row" : Str), .int r)])
theorem RX.ext {L L' : LHp} {H H' : Hp} {e : Exn} {cls : Value} {d : Option Addr} (r : RX L H e cls d) (x : Ext L H L' H') : RX L' H' e cls d :=
  ⟨r.1, r.2.1, fun i h => let ⟨dd, e1, n, q⟩ := r.2.2 i h; ⟨dd, e1, x dd _ q (fun _ z => nomatch z) n⟩⟩
def SimV (K : PySem.W.Frag) (L : LHp) (H : Hp) (Ql : QL) (Q : VK) : Prop := ∀ l L' v H', RH K L' H' → Ext L H L' H' → RV K L' H' l v → Ql l L' → Q v H'
def SimB (K : PySem.W.Frag) (L : LHp) (H : Hp) (Ql : Bool → LHp → Prop) (Q : Bool → Hp → Prop) : Prop := ∀ b L' H', RH K L' H' → Ext L H L' H' → Ql b L' → Q b H'
def SimA (K : PySem.W.Frag) (L : LHp) (H : Hp) (Ql : List LV → LHp → Prop) (Q : List V → Hp → Prop) : Prop := ∀ l L' v H', RH K L' H' → Ext L H L' H' → RVs K L' H' l v → Ql l L' → Q v H'
def SimN (K : PySem.W.Frag) (L : LHp) (H : Hp) (N : LSt → LHp → Prop) (n : St → Hp → Prop) : Prop := ∀ σl L' σ H', RH K L' H' → Ext L H L' H' → RS K L' H' σl σ → N σl L' → n σ H'
def SimX (K : PySem.W.Frag) (L : LHp) (H : Hp) (El : XL) (W : WX) : Prop := ∀ e L' cls d σ H', RH K L' H' → Ext L H L' H' → RX L' H' e cls d → El e L' → W cls d σ H'
section
variable {K : PySem.W.Frag} {L L' : LHp} {H H' : Hp}
theorem SimV.ext {Ql : QL} {Q : VK} (s : SimV K L H Ql Q) (e : Ext L H L' H') : SimV K L' H' Ql Q := fun l L2 v H2 r x => s l L2 v H2 r (e.trans x)
theorem SimB.ext {Ql : Bool → LHp → Prop} {Q : Bool → Hp → Prop} (s : SimB K L H Ql Q) (e : Ext L H L' H') : SimB K L' H' Ql Q := fun l L2 H2 r x => s l L2 H2 r (e.trans x)
theorem SimA.ext {Ql : List LV → LHp → Prop} {Q : List V → Hp → Prop} (s : SimA K L H Ql Q) (e : Ext L H L' H') : SimA K L' H' Ql Q := fun l L2 v H2 r x => s l L2 v H2 r (e.trans x)
theorem SimN.ext {N : LSt → LHp → Prop} {n : St → Hp → Prop} (s : SimN K L H N n) (e : Ext L H L' H') : SimN K L' H' N n := fun l L2 v H2 r x => s l L2 v H2 r (e.trans x)
theorem SimX.ext {El : XL} {W : WX} (s : SimX K L H El W) (e : Ext L H L' H') : SimX K L' H' El W := fun x L2 c d σ H2 r y => s x L2 c d σ H2 r (e.trans y)
end
def upE (K : PySem.W.Frag) (W : WX) (x : LTE) : TE := fun σ H Q => ∃ σl L Ql El, RH K L H ∧ RS K L H σl σ ∧ SimV K L H Ql Q ∧ SimX K L H El W ∧ x σl L Ql El
def upT (K : PySem.W.Frag) (W : WX) (x : LTT) : TT := fun σ H Q => ∃ σl L Ql El, RH K L H ∧ RS K L H σl σ ∧ SimB K L H Ql Q ∧ SimX K L H El W ∧ x σl L Ql El
def upA (K : PySem.W.Frag) (W : WX) (x : LTA) : TA := fun σ H Q => ∃ σl L Ql El, RH K L H ∧ RS K L H σl σ ∧ SimA K L H Ql Q ∧ SimX K L H El W ∧ x σl L Ql El
structure SimD (K : PySem.W.Frag) (L : LHp) (H : Hp) (Dl : LEnds) (D : Ends) (W : WX) : Prop where
  nx : SimN K L H Dl.nx D.nx
  rt : SimV K L H Dl.rt D.rt
  bk : SimN K L H Dl.bk D.bk
  ct : SimN K L H Dl.ct D.ct
  ex : SimX K L H Dl.ex W
theorem SimD.ext {K : PySem.W.Frag} {L L' : LHp} {H H' : Hp} {Dl : LEnds} {D : Ends} {W : WX} (s : SimD K L H Dl D W) (e : Ext L H L' H') : SimD K L' H' Dl D W := ⟨s.nx.ext e, s.rt.ext e, s.bk.ext e, s.ct.ext e, s.ex.ext e⟩
def upS (K : PySem.W.Frag) (W : WX) (x : LTS) : TS := fun D σ H => ∃ σl L Dl, RH K L H ∧ RS K L H σl σ ∧ SimD K L H Dl D W ∧ x Dl σl L
def LE (X : Cx) (e : Expr) (x : LTE) : Prop := ∀ W, L2N.Takes X W → PE X e (upE X.K W x)
def LT (X : Cx) (e : Expr) (x : LTT) : Prop := ∀ W, L2N.Takes X W → PT X e (upT X.K W x)
def LPW (X : Cx) (e : Expr) (x : LTT) : Prop := ∀ W, L2N.Takes X W → PW X e (upT X.K W x)
def LA (X : Cx) (es : List Expr) (x : LTA) : Prop := ∀ W, L2N.Takes X W → PA X es (upA X.K W x)
def LS (X : Cx) (st : Stmt) (x : LTS) : Prop := ∀ W, L2N.Takes X W → PS X st (upS X.K W x)
def LSs (X : Cx) (st : List Stmt) (x : LTS) : Prop := ∀ W, L2N.Takes X W → PSs X st (upS X.K W x)
theorem takes0N {X : Cx} : L2N.Takes X (fun _ _ _ _ => False) := fun _ _ x => by
  obtain ⟨_, _, _, _, _, _, _, _, _, _, _, _, _, _, _, _, z⟩ := x
  exact z.elim
theorem pe_weak {X : Cx} {e : Expr} {t t' : TE} (h : PE X e t) (w : ∀ σ H Q, t' σ H Q → t σ H Q) : PE X e t' := ⟨fun pins s σ H Q I q => h.run pins s σ H Q I (w _ _ _ q)⟩
theorem pt_weak {X : Cx} {e : Expr} {t t' : TT} (h : PT X e t) (w : ∀ σ H Q, t' σ H Q → t σ H Q) : PT X e t' := ⟨fun pins s σ H Q I q => h.run pins s σ H Q I (w _ _ _ q)⟩
theorem pw_weak {X : Cx} {e : Expr} {t t' : TT} (h : PW X e t) (w : ∀ σ H Q, t' σ H Q → t σ H Q) : PW X e t' := ⟨fun wh pins s σ H Q I q => h.run wh pins s σ H Q I (w _ _ _ q)⟩
theorem pa_weak {X : Cx} {e : List Expr} {t t' : TA} (h : PA X e t) (w : ∀ σ H Q, t' σ H Q → t σ H Q) : PA X e t' := ⟨fun pos pins s σ H Q I q => h.run pos pins s σ H Q I (w _ _ _ q)⟩
theorem ps_weak {X : Cx} {e : Stmt} {t t' : TS} (h : PS X e t) (w : ∀ D σ H, t' D σ H → t D σ H) : PS X e t' := ⟨fun pins s σ H D I q => h.run pins s σ H D I (w _ _ _ q)⟩
theorem pss_weak {X : Cx} {e : List Stmt} {t t' : TS} (h : PSs X e t) (w : ∀ D σ H, t' D σ H → t D σ H) : PSs X e t' := ⟨fun pins s σ H D I q => h.run pins s σ H D I (w _ _ _ q)⟩
end LK
set_option Elab.async false
set_option linter.all false
set_option maxRecDepth 100000
set_option maxHeartbeats 2000000
/-! Rules: names, constants, operators, tests. -/
namespace LK
open PySem PySem.Spec PyProof.Rows L2

/-! ### lists and tuples as they are read -/
/-- the items of a list -/
def lstOf (L : LHp) : LV → Option (List LV)
  | .lst ls => some ls
  | .ref p => match L p with
    | some (.lst ls) => some ls
    | _ => none
  | _ => none
/-- the items of a tuple -/
def tupOf : LV → Option (List LV)
  | .tup ls => some ls
  | .wt ls => some ls
  | _ => none
section
variable {K : PySem.W.Frag} {L L' : LHp} {H H' : Hp} {a b : LV} {x y v : V}
theorem RH.lst (r : RH K L H) {p : Addr} {ls : List LV} (e : L p = some (.lst ls)) : ∃ xs, H p = some (.lst xs) ∧ RVs K L H ls xs := by
  obtain ⟨o, e1, xs, e2, q⟩ := r.at_ p _ e
  subst e2
  exact ⟨xs, e1, q⟩
theorem RH.dct (r : RH K L H) {p : Addr} {ls : List (Key × LV)} (e : L p = some (.dct ls)) : ∃ xs, H p = some (.dK xs) ∧ RKV K L H ls xs := by
  obtain ⟨o, e1, xs, e2, q⟩ := r.at_ p _ e
  subst e2
  exact ⟨xs, e1, q⟩
theorem RH.dtt (r : RH K L H) {p : Addr} {ls : List (List Key × LV)} (e : L p = some (.dtt ls)) : ∃ xs, H p = some (.dT xs) ∧ RKV K L H ls xs := by
  obtain ⟨o, e1, xs, e2, q⟩ := r.at_ p _ e
  subst e2
  exact ⟨xs, e1, q⟩
theorem RH.ins (r : RH K L H) {p C : Addr} {fs : List (Str × LV)} (e : L p = some (.ins C fs)) : ∃ dx ys, H p = some (.ins C dx ys) ∧ RKV K L H fs ys := by
  obtain ⟨o, e1, dx, xs, e2, q⟩ := r.at_ p _ e
  subst e2
  exact ⟨dx, xs, e1, q⟩
theorem RV.non_inv (h : RV K L H .non v) : v = .non := h
theorem RV.bl_inv {b : Bool} (h : RV K L H (.bl b) v) : v = .bl b := h
theorem RV.int_inv {i : Int} (h : RV K L H (.int i) v) : v = .int i := h
theorem RV.str_inv {i : Str} (h : RV K L H (.str i) v) : v = .str i := h
theorem RV.ref_inv {i : Addr} (h : RV K L H (.ref i) v) : v = .ref i := h
theorem RV.tup_inv {ls : List LV} (h : RV K L H (.tup ls) v) : ∃ p xs, v = .ref p ∧ FzT L H p xs ∧ RVs K L H ls xs := by
  unfold RV at h
  exact h
theorem RV.lst_inv {ls : List LV} (h : RV K L H (.lst ls) v) : ∃ p xs, v = .ref p ∧ FzL L H p xs ∧ RVs K L H ls xs := by
  unfold RV at h
  exact h
theorem RV.wl_inv {ls : List LV} (h : RV K L H (.wl ls) v) : ∃ p xs, v = .ref p ∧ FzW K L H p xs ∧ RVs K L H ls xs := by
  unfold RV at h
  exact h
theorem RV.wt_inv {ls : List LV} (h : RV K L H (.wt ls) v) : ∃ p xs, v = .ref p ∧ WtT K p xs ∧ RVs K L H ls xs := by
  unfold RV at h
  exact h
theorem RV.of_tup {ls : List LV} {p : Addr} {xs : List V} (f : FzT L H p xs) (r : RVs K L H ls xs) : RV K L H (.tup ls) (.ref p) := by
  unfold RV
  exact ⟨p, xs, rfl, f, r⟩
theorem RV.of_lst {ls : List LV} {p : Addr} {xs : List V} (f : FzL L H p xs) (r : RVs K L H ls xs) : RV K L H (.lst ls) (.ref p) := by
  unfold RV
  exact ⟨p, xs, rfl, f, r⟩
theorem lstOf_sim (r : RH K L H) (ra : RV K L H a x) {ls : List LV} (e : lstOf L a = some ls) : ∃ p xs, x = .ref p ∧ H p = some (.lst xs) ∧ RVs K L H ls xs := by
  cases a with
  | lst ms =>
    have e' : ms = ls := Option.some.inj e
    subst e'
    obtain ⟨p, xs, e1, f, q⟩ := ra.lst_inv
    exact ⟨p, xs, e1, f.2, q⟩
  | ref p =>
    have e1 := ra.ref_inv
    unfold lstOf at e
    cases q : L p with
    | none => simp only [q] at e; cases e
    | some lo =>
      cases lo with
      | lst ms =>
        simp only [q] at e
        have e' : ms = ls := Option.some.inj e
        subst e'
        obtain ⟨xs, e2, rr⟩ := r.lst q
        exact ⟨p, xs, e1, e2, rr⟩
      | _ => simp only [q] at e; cases e
  | _ => cases e
theorem tupOf_sim (ra : RV K L H a x) {ls : List LV} (e : tupOf a = some ls) : ∃ p xs, x = .ref p ∧ SqT K H p xs ∧ RVs K L H ls xs := by
  cases a with
  | tup ms =>
    have e' : ms = ls := Option.some.inj e
    subst e'
    obtain ⟨p, xs, e1, f, q⟩ := ra.tup_inv
    exact ⟨p, xs, e1, f.sq, q⟩
  | wt ms =>
    have e' : ms = ls := Option.some.inj e
    subst e'
    obtain ⟨p, xs, e1, f, q⟩ := ra.wt_inv
    exact ⟨p, xs, e1, f.sq, q⟩
  | _ => cases e
/-- a new list: a tree at once, or a thing that may be written -/
def newL (fr : Bool) (ls : List LV) (L : LHp) (Q : QL) : Prop := match fr with
  | true => Q (.lst ls) L
  | false => ∀ p, L p = none → Q (.ref p) (lup L p (.lst ls))
theorem newL_sim {fr : Bool} {ls : List LV} {xs : List V} {Ql : QL} {Q : VK} (r : RH K L H) (s : SimV K L H Ql Q) (rv : RVs K L H ls xs) (h : newL fr ls L Ql) : ∀ p, H p = none → Q (.ref p) (upd H p (.lst xs)) := fun p hp => by
  cases fr with
  | true =>
    refine s _ L _ _ (r.frz hp) (Ext.frz r hp) ?_ h
    exact .of_lst ⟨r.fresh hp, upd_same⟩ (rv.ext (Ext.frz r hp))
  | false => exact s (.ref p) _ _ _ (r.new (lo := .lst ls) hp ⟨xs, rfl, rv⟩) (Ext.new r hp) rfl (h p (r.fresh hp))
end

section
variable {X : Cx} {e e1 e2 e3 : Expr} {es : List Expr} {pos : Pos} {x x1 x2 x3 : LTE}
/-! ### names and constants -/
def xVar (i : Nat) : LTE := fun σ L Q _ => match σ[i]? with
  | some (some l) => Q l L
  | _ => False
theorem le_var (i : Nat) {n : Str} (hN : X.N[i]? = some n := by rfl) (hv : Vis X.env.scope n := by first | exact Or.inl rfl | exact Or.inr (Or.inl rfl) | exact Or.inr (Or.inr rfl)) (hd : (n == ("__debug__" : Str)) = false := by decide)
    (hcd : (n == ("__classdict__" : Str)) = false := by decide) : LE X (.Name n pos) (xVar i) := fun W _ => by
  refine pe_weak (pe_var hN hv hd hcd) fun σ H Q h => ?_
  obtain ⟨σl, L, Ql, El, r, rs, s, _, h⟩ := h
  unfold xVar at h
  cases q : σl[i]? with
  | none => simp only [q] at h
  | some o =>
    cases o with
    | none => simp only [q] at h
    | some l =>
      simp only [q] at h
      obtain ⟨v, ev, rv⟩ := rs.2 i l q
      exact ⟨v, ev, s l L v H r .refl rv h⟩
def xC (l : LV) : LTE := fun _ L Q _ => Q l L
/-- a leaf whose value is the same everywhere -/
theorem le_c {l : LV} {v : V} (h : PE X e (tC v)) (rv : ∀ L H, RV X.K L H l v) : LE X e (xC l) := fun W _ => by
  refine pe_weak h fun σ H Q h => ?_
  obtain ⟨σl, L, Ql, El, r, rs, s, _, h⟩ := h
  exact s l L v H r .refl (rv _ _) h
theorem le_int {i : Int} {j : Nat} : LE X (.Constant (.int i) j pos) (xC (.int i)) := le_c pe_int fun _ _ => rfl
theorem le_bl {i : Bool} {j : Nat} : LE X (.Constant (.bool i) j pos) (xC (.bl i)) := le_c pe_bl fun _ _ => rfl
theorem le_non {j : Nat} : LE X (.Constant .none j pos) (xC .non) := le_c pe_non fun _ _ => rfl
theorem le_str {i : Str} {j : Nat} : LE X (.Constant (.str i) j pos) (xC (.str i)) := le_c pe_str fun _ _ => rfl
theorem le_gint {n : Str} {i : Int} (hm : ∃ t, X.mg n = some (.int i t)) (hg : Gl X n := by rfl) (hd : (n == ("__debug__" : Str)) = false := by decide) : LE X (.Name n pos) (xC (.int i)) := by
  obtain ⟨t, hm⟩ := hm
  exact le_c (pe_glob hg hm (v := .int i) ⟨t, rfl⟩ hd) fun _ _ => rfl
theorem le_gstr {n : Str} {i : Str} (hm : ∃ t, X.mg n = some (.str i t)) (hg : Gl X n := by rfl) (hd : (n == ("__debug__" : Str)) = false := by decide) : LE X (.Name n pos) (xC (.str i)) := by
  obtain ⟨t, hm⟩ := hm
  exact le_c (pe_glob hg hm (v := .str i) ⟨t, rfl⟩ hd) fun _ _ => rfl
/-- a module's tuple of texts -/
theorem le_gtup {n : Str} {zs : List Str} (hm : ∃ p, X.mg n = some (.ref p) ∧ WtT X.K p (zs.map V.str)) (hg : Gl X n := by rfl) (hd : (n == ("__debug__" : Str)) = false := by decide) : LE X (.Name n pos) (xC (.wt (zs.map LV.str))) := by
  obtain ⟨p, hm, w⟩ := hm
  refine le_c (pe_glob hg hm (v := .ref p) rfl hd) fun L H => ?_
  unfold RV
  exact ⟨p, _, rfl, w, .of_strs⟩

/-! ### operators -/
abbrev LR2 := LV → LV → LHp → QL → Prop
def SimR2 (K : PySem.W.Frag) (lr : LR2) (r : R2) : Prop := ∀ L H a b x y Ql Q, RH K L H → RV K L H a x → RV K L H b y → SimV K L H Ql Q → lr a b L Ql → r x y H Q
def OpL (X : Cx) (f : Value → Value → Sem Value) (lr : LR2) : Prop := ∃ r, OpR X f r ∧ SimR2 X.K lr r
def xBin (lr : LR2) (xa xb : LTE) : LTE := fun σ L Q E => xa σ L (fun a L1 => xb σ L1 (fun b L2 => lr a b L2 Q) E) E
theorem up_bin {K : PySem.W.Frag} {W : WX} {lr : LR2} {r : R2} {xa xb : LTE} (sr : SimR2 K lr r) {σ : St} {H : Hp} {Q : VK} (h : upE K W (xBin lr xa xb) σ H Q) : tOp r (upE K W xa) (upE K W xb) σ H Q := by
  obtain ⟨σl, L, Ql, El, rh, rs, s, sx, h⟩ := h
  refine ⟨σl, L, _, El, rh, rs, fun a L1 x H1 r1 x1 ra h1 => ?_, sx, h⟩
  refine ⟨σl, L1, _, El, r1, rs.ext x1, fun b L2 y H2 r2 x2 rb h2 => ?_, sx.ext x1, h1⟩
  exact sr L2 H2 a b x y Ql Q r2 (RV.ext x2 a x ra) rb (s.ext (x1.trans x2)) h2
theorem le_bin {op : Operator} {lr : LR2} (ho : OpL X (binaryOp op) lr) (ha : LE X e1 x1) (hb : LE X e2 x2) : LE X (.BinOp e1 op e2 pos) (xBin lr x1 x2) := fun W tk => by
  obtain ⟨r, hr, sr⟩ := ho
  exact pe_weak (pe_op hr (ha W tk) (hb W tk)) fun σ H Q h => up_bin sr h
theorem le_cmp {op : CmpOp} {lr : LR2} (ho : OpL X (compareOp op) lr) (ha : LE X e1 x1) (hb : LE X e2 x2) (hm : behindInMarks op e2 = false := by first | exact nomark _ | rfl) : LE X (.Compare e1 [op] [e2] pos) (xBin lr x1 x2) := fun W tk => by
  obtain ⟨r, hr, sr⟩ := ho
  exact pe_weak (pe_cmpR hr (ha W tk) (hb W tk) hm) fun σ H Q h => up_bin sr h
/-- a value as a test -/
def xTest (x : LTE) : LTT := fun σ L Q E => x σ L (fun a L1 => match a with
  | .bl k => Q k L1
  | _ => False) E
theorem up_test {K : PySem.W.Frag} {W : WX} {x : LTE} {σ : St} {H : Hp} {Q : Bool → Hp → Prop} (h : upT K W (xTest x) σ H Q) : tTest (upE K W x) σ H Q := by
  obtain ⟨σl, L, Ql, El, rh, rs, s, sx, h⟩ := h
  refine ⟨σl, L, _, El, rh, rs, fun a L1 v H1 r1 x1 ra h1 => ?_, sx, h⟩
  cases a with
  | bl k => exact ⟨k, ra.bl_inv, s k L1 H1 r1 x1 h1⟩
  | _ => exact h1.elim
theorem lt_cmp {op : CmpOp} {lr : LR2} (ho : OpL X (compareOp op) lr) (ha : LE X e1 x1) (hb : LE X e2 x2) (hm : behindInMarks op e2 = false := by first | exact nomark _ | rfl) : LT X (.Compare e1 [op] [e2] pos) (xTest (xBin lr x1 x2)) := fun W tk => by
  obtain ⟨r, hr, sr⟩ := ho
  refine pt_weak (pt_cmpR hr (ha W tk) (hb W tk) hm) fun σ H Q h => ?_
  obtain ⟨σl, L, Ql, El, rh, rs, s, sx, h⟩ := up_test h
  exact up_bin sr ⟨σl, L, Ql, El, rh, rs, s, sx, h⟩
theorem lt_val (h : LE X e x) (he : ∀ whole, isTrue e X.env whole = (do let v ← whole; standAt e.pos; holding [v] (truthy v)) := by intro _; rfl) : LT X e (xTest x) := fun W tk => by
  refine pt_weak (pt_val (h W tk) he) fun σ H Q h => ?_
  obtain ⟨σl, L, Ql, El, rh, rs, s, sx, h⟩ := h
  refine ⟨σl, L, _, El, rh, rs, fun a L1 v H1 r1 x1 ra h1 => ?_, sx, h⟩
  cases a with
  | bl k => exact ⟨k, ra.bl_inv, s k L1 H1 r1 x1 h1⟩
  | _ => exact h1.elim
/-- a op b op' c -/
def xChain (lr lr' : LR2) (xa xb xc : LTE) : LTE := fun σ L Q E => xa σ L (fun a L1 => xb σ L1 (fun b L2 => lr a b L2 (fun z L3 => match z with
  | .bl true => xc σ L3 (fun c L4 => lr' b c L4 Q) E
  | .bl false => Q (.bl false) L3
  | _ => False)) E) E
theorem up_chain {K : PySem.W.Frag} {W : WX} {lr lr' : LR2} {r r' : R2} {xa xb xc : LTE} (sr : SimR2 K lr r) (sr' : SimR2 K lr' r') {σ : St} {H : Hp} {Q : VK} (h : upE K W (xChain lr lr' xa xb xc) σ H Q) :
    tChain r r' (upE K W xa) (upE K W xb) (upE K W xc) σ H Q := by
  obtain ⟨σl, L, Ql, El, rh, rs, s, sx, h⟩ := h
  refine ⟨σl, L, _, El, rh, rs, fun a L1 x H1 r1 x1 ra h1 => ?_, sx, h⟩
  refine ⟨σl, L1, _, El, r1, rs.ext x1, fun b L2 y H2 r2 x2 rb h2 => ?_, sx.ext x1, h1⟩
  refine sr L2 H2 a b x y _ _ r2 (RV.ext x2 a x ra) rb (fun z L3 v H3 r3 x3 rz h3 => ?_) h2
  cases z with
  | bl k =>
    refine ⟨k, rz.bl_inv, ?_⟩
    cases k with
    | true =>
      refine iteT ?_
      refine ⟨σl, L3, _, El, r3, rs.ext ((x1.trans x2).trans x3), fun c L4 w' H4 r4 x4 rc h4 => ?_, sx.ext ((x1.trans x2).trans x3), h3⟩
      exact sr' L4 H4 b c y w' Ql Q r4 (RV.ext (x3.trans x4) b y rb) rc (s.ext (((x1.trans x2).trans x3).trans x4)) h4
    | false => exact iteF (s (.bl false) L3 _ H3 r3 ((x1.trans x2).trans x3) rfl h3)
  | _ => exact h3.elim
theorem le_chain {op op' : CmpOp} {lr lr' : LR2} (ho : OpL X (compareOp op) lr) (ho' : OpL X (compareOp op') lr') (ha : LE X e1 x1) (hb : LE X e2 x2) (hc : LE X e3 x3)
    (hm : lastMarks [op, op'] [e2, e3] = false := by with_unfolding_all rfl) : LE X (.Compare e1 [op, op'] [e2, e3] pos) (xChain lr lr' x1 x2 x3) := fun W tk => by
  obtain ⟨r, hr, sr⟩ := ho
  obtain ⟨r', hr', sr'⟩ := ho'
  exact pe_weak (pe_chain hr hr' (ha W tk) (hb W tk) (hc W tk) hm) fun σ H Q h => up_chain sr sr' h
theorem lt_chain {op op' : CmpOp} {lr lr' : LR2} (ho : OpL X (compareOp op) lr) (ho' : OpL X (compareOp op') lr') (ha : LE X e1 x1) (hb : LE X e2 x2) (hc : LE X e3 x3)
    (hm : lastMarks [op, op'] [e2, e3] = false := by with_unfolding_all rfl) : LT X (.Compare e1 [op, op'] [e2, e3] pos) (xTest (xChain lr lr' x1 x2 x3)) := fun W tk => by
  obtain ⟨r, hr, sr⟩ := ho
  obtain ⟨r', hr', sr'⟩ := ho'
  refine pt_weak (pt_chain hr hr' (ha W tk) (hb W tk) (hc W tk) hm) fun σ H Q h => ?_
  obtain ⟨σl, L, Ql, El, rh, rs, s, sx, h⟩ := up_test h
  exact up_chain sr sr' ⟨σl, L, Ql, El, rh, rs, s, sx, h⟩
/-! ### and, or, not -/
def xAndT (c d : LTT) : LTT := fun σ L Q E => c σ L (fun b L1 => match b with
  | true => d σ L1 Q E
  | false => Q false L1) E
def xOrT (c d : LTT) : LTT := fun σ L Q E => c σ L (fun b L1 => match b with
  | true => Q true L1
  | false => d σ L1 Q E) E
def xNotT (c : LTT) : LTT := fun σ L Q E => c σ L (fun b L1 => Q (!b) L1) E
variable {c d : LTT} {rest : List Expr}
theorem lw_and1 (h : LT X e c) : LPW X (.BoolOp .And [e] pos) c := fun W tk => pw_and1 (h W tk)
theorem lw_or1 (h : LT X e c) : LPW X (.BoolOp .Or [e] pos) c := fun W tk => pw_or1 (h W tk)
theorem lw_and (h : LT X e1 c) (g : LPW X (.BoolOp .And (e2 :: rest) pos) d) : LPW X (.BoolOp .And (e1 :: e2 :: rest) pos) (xAndT c d) := fun W tk => by
  refine pw_weak (pw_and (h W tk) (g W tk)) fun σ H Q h => ?_
  obtain ⟨σl, L, Ql, El, rh, rs, s, sx, h⟩ := h
  refine ⟨σl, L, _, El, rh, rs, fun b L1 H1 r1 x1 h1 => ?_, sx, h⟩
  cases b with
  | true => exact iteT ⟨σl, L1, _, El, r1, rs.ext x1, s.ext x1, sx.ext x1, h1⟩
  | false => exact iteF (s false L1 H1 r1 x1 h1)
theorem lw_or (h : LT X e1 c) (g : LPW X (.BoolOp .Or (e2 :: rest) pos) d) : LPW X (.BoolOp .Or (e1 :: e2 :: rest) pos) (xOrT c d) := fun W tk => by
  refine pw_weak (pw_or (h W tk) (g W tk)) fun σ H Q h => ?_
  obtain ⟨σl, L, Ql, El, rh, rs, s, sx, h⟩ := h
  refine ⟨σl, L, _, El, rh, rs, fun b L1 H1 r1 x1 h1 => ?_, sx, h⟩
  cases b with
  | true => exact iteT (s true L1 H1 r1 x1 h1)
  | false => exact iteF ⟨σl, L1, _, El, r1, rs.ext x1, s.ext x1, sx.ext x1, h1⟩
theorem lt_w (h : LPW X e c) : LT X e c := fun W tk => (h W tk).pt
theorem lt_not (h : LT X e c) : LT X (.UnaryOp .Not e pos) (xNotT c) := fun W tk => by
  refine pt_weak (pt_not (h W tk)) fun σ H Q h => ?_
  obtain ⟨σl, L, Ql, El, rh, rs, s, sx, h⟩ := h
  exact ⟨σl, L, _, El, rh, rs, fun b L1 H1 r1 x1 h1 => s _ L1 H1 r1 x1 h1, sx, h⟩
def xAnd (xa xb : LTE) : LTE := fun σ L Q E => xa σ L (fun a L1 => match a with
  | .bl true => xb σ L1 Q E
  | .bl false => Q (.bl false) L1
  | _ => False) E
def xOr (xa xb : LTE) : LTE := fun σ L Q E => xa σ L (fun a L1 => match a with
  | .bl true => Q (.bl true) L1
  | .bl false => xb σ L1 Q E
  | _ => False) E
def xNot (xa : LTE) : LTE := fun σ L Q E => xa σ L (fun a L1 => match a with
  | .bl k => Q (.bl (!k)) L1
  | _ => False) E
theorem le_one {op : BoolOp} (h : LE X e x) : LE X (.BoolOp op [e] pos) x := fun W tk => pe_one (h W tk)
theorem le_and (h : LE X e1 x1) (g : LE X (.BoolOp .And (e2 :: rest) pos) x2) : LE X (.BoolOp .And (e1 :: e2 :: rest) pos) (xAnd x1 x2) := fun W tk => by
  refine pe_weak (pe_and (h W tk) (g W tk)) fun σ H Q h => ?_
  obtain ⟨σl, L, Ql, El, rh, rs, s, sx, h⟩ := h
  refine ⟨σl, L, _, El, rh, rs, fun a L1 v H1 r1 y1 ra h1 => ?_, sx, h⟩
  cases a with
  | bl k =>
    refine ⟨k, ra.bl_inv, ?_⟩
    cases k with
    | true => exact iteT ⟨σl, L1, _, El, r1, rs.ext y1, s.ext y1, sx.ext y1, h1⟩
    | false => exact iteF (s (.bl false) L1 _ H1 r1 y1 rfl h1)
  | _ => exact h1.elim
theorem le_or (h : LE X e1 x1) (g : LE X (.BoolOp .Or (e2 :: rest) pos) x2) : LE X (.BoolOp .Or (e1 :: e2 :: rest) pos) (xOr x1 x2) := fun W tk => by
  refine pe_weak (pe_or (h W tk) (g W tk)) fun σ H Q h => ?_
  obtain ⟨σl, L, Ql, El, rh, rs, s, sx, h⟩ := h
  refine ⟨σl, L, _, El, rh, rs, fun a L1 v H1 r1 y1 ra h1 => ?_, sx, h⟩
  cases a with
  | bl k =>
    refine ⟨k, ra.bl_inv, ?_⟩
    cases k with
    | true => exact iteT (s (.bl true) L1 _ H1 r1 y1 rfl h1)
    | false => exact iteF ⟨σl, L1, _, El, r1, rs.ext y1, s.ext y1, sx.ext y1, h1⟩
  | _ => exact h1.elim
theorem le_not (h : LE X e x) : LE X (.UnaryOp .Not e pos) (xNot x) := fun W tk => by
  refine pe_weak (pe_not (h W tk)) fun σ H Q h => ?_
  obtain ⟨σl, L, Ql, El, rh, rs, s, sx, h⟩ := h
  refine ⟨σl, L, _, El, rh, rs, fun a L1 v H1 r1 y1 ra h1 => ?_, sx, h⟩
  cases a with
  | bl k => exact ⟨k, ra.bl_inv, s (.bl (!k)) L1 _ H1 r1 y1 rfl h1⟩
  | _ => exact h1.elim
def xIf (c : LTT) (xa xb : LTE) : LTE := fun σ L Q E => c σ L (fun b L1 => match b with
  | true => xa σ L1 Q E
  | false => xb σ L1 Q E) E
theorem le_if (hc : LT X e c) (ha : LE X e1 x1) (hb : LE X e2 x2) : LE X (.IfExp e e1 e2 pos) (xIf c x1 x2) := fun W tk => by
  refine pe_weak (pe_ifExp (hc W tk) (ha W tk) (hb W tk)) fun σ H Q h => ?_
  obtain ⟨σl, L, Ql, El, rh, rs, s, sx, h⟩ := h
  refine ⟨σl, L, _, El, rh, rs, fun b L1 H1 r1 y1 h1 => ?_, sx, h⟩
  cases b with
  | true => exact iteT ⟨σl, L1, _, El, r1, rs.ext y1, s.ext y1, sx.ext y1, h1⟩
  | false => exact iteF ⟨σl, L1, _, El, r1, rs.ext y1, s.ext y1, sx.ext y1, h1⟩
/-! ### argument lists, displays -/
def xNil : LTA := fun _ L Q _ => Q [] L
def xCons (x : LTE) (t : LTA) : LTA := fun σ L Q E => x σ L (fun a L1 => t σ L1 (fun as L2 => Q (a :: as) L2) E) E
variable {t : LTA}
theorem la_nil : LA X [] xNil := fun W _ => by
  refine pa_weak pa_nil fun σ H Q h => ?_
  obtain ⟨σl, L, Ql, El, rh, rs, s, sx, h⟩ := h
  exact s [] L [] H rh .refl .nil h
theorem la_cons (ha : LE X e x) (hr : LA X es t) (hs : starEach (e :: es) X.env = (false, eval e X.env) :: starEach es X.env := by rfl) : LA X (e :: es) (xCons x t) := fun W tk => by
  refine pa_weak (pa_cons (ha W tk) (hr W tk) hs) fun σ H Q h => ?_
  obtain ⟨σl, L, Ql, El, rh, rs, s, sx, h⟩ := h
  refine ⟨σl, L, _, El, rh, rs, fun a L1 v H1 r1 y1 ra h1 => ?_, sx, h⟩
  refine ⟨σl, L1, _, El, r1, rs.ext y1, fun as L2 vs H2 r2 y2 ras h2 => ?_, sx.ext y1, h1⟩
  exact s _ L2 _ H2 r2 (y1.trans y2) (.cons (RV.ext y2 a v ra) ras) h2
def xTup (t : LTA) : LTE := fun σ L Q E => t σ L (fun as L1 => as.length ≤ sizeLine ∧ Q (.tup as) L1) E
def xLst (fr : Bool) (t : LTA) : LTE := fun σ L Q E => t σ L (fun as L1 => as.length ≤ sizeLine ∧ newL fr as L1 Q) E
theorem le_tup {k : Nat} (h : LA X es t) : LE X (.Tuple es k pos) (xTup t) := fun W tk => by
  refine pe_weak (pe_tup (h W tk)) fun σ H Q h => ?_
  obtain ⟨σl, L, Ql, El, rh, rs, s, sx, h⟩ := h
  refine ⟨σl, L, _, El, rh, rs, fun as L1 vs H1 r1 y1 ra h1 => ?_, sx, h⟩
  refine ⟨by rw [ra.length]; exact h1.1, fun p hp => ?_⟩
  exact s _ L1 _ _ (r1.frz hp) (y1.trans (Ext.frz r1 hp)) (.of_tup ⟨r1.fresh hp, upd_same⟩ (ra.ext (Ext.frz r1 hp))) h1.2
theorem le_lst {fr : Bool} (h : LA X es t) : LE X (.List es pos) (xLst fr t) := fun W tk => by
  refine pe_weak (pe_lst (h W tk)) fun σ H Q h => ?_
  obtain ⟨σl, L, Ql, El, rh, rs, s, sx, h⟩ := h
  refine ⟨σl, L, _, El, rh, rs, fun as L1 vs H1 r1 y1 ra h1 => ?_, sx, h⟩
  exact ⟨by rw [ra.length]; exact h1.1, newL_sim r1 (s.ext y1) ra h1.2⟩
end
end LK
set_option Elab.async false
set_option linter.all false
set_option maxRecDepth 100000
set_option maxHeartbeats 2000000
/-! Rules: operators by values, subscripts, slices. -/
namespace LK
open PySem PySem.Spec PyProof.Rows L2

/-! ### ints -/
def lI (C : Int → Int → Prop) (f : Int → Int → Int) : LR2 := fun a b L Q => match a, b with
  | .int i, .int j => C i j ∧ Q (.int (f i j)) L
  | _, _ => False
def lI0 (f : Int → Int → Int) : LR2 := fun a b L Q => match a, b with
  | .int i, .int j => Q (.int (f i j)) L
  | _, _ => False
def lB (f : Int → Int → Bool) : LR2 := fun a b L Q => match a, b with
  | .int i, .int j => Q (.bl (f i j)) L
  | _, _ => False
section
variable {K : PySem.W.Frag} {X : Cx}
theorem sim_I {C : Int → Int → Prop} {f : Int → Int → Int} : SimR2 K (lI C f) (rI C fun i j => .int (f i j)) := fun L H a b x y Ql Q rh ra rb s h => by
  cases a with
  | int i =>
    cases b with
    | int j => exact ⟨i, j, ra.int_inv, rb.int_inv, h.1, s (.int (f i j)) L _ H rh .refl rfl h.2⟩
    | _ => exact h.elim
  | _ => exact h.elim
theorem sim_I0 {f : Int → Int → Int} : SimR2 K (lI0 f) (rI0 fun i j => .int (f i j)) := fun L H a b x y Ql Q rh ra rb s h => by
  cases a with
  | int i =>
    cases b with
    | int j => exact ⟨i, j, ra.int_inv, rb.int_inv, s (.int (f i j)) L _ H rh .refl rfl h⟩
    | _ => exact h.elim
  | _ => exact h.elim
theorem sim_B {f : Int → Int → Bool} : SimR2 K (lB f) (rI0 fun i j => .bl (f i j)) := fun L H a b x y Ql Q rh ra rb s h => by
  cases a with
  | int i =>
    cases b with
    | int j => exact ⟨i, j, ra.int_inv, rb.int_inv, s (.bl (f i j)) L _ H rh .refl rfl h⟩
    | _ => exact h.elim
  | _ => exact h.elim
def lAdd : LR2 := fun a b L Q => match a, b with
  | .int i, .int j => Q (.int (i + j)) L
  | .str x, .str y => x.length + y.length ≤ sizeLine ∧ Q (.str (x ++ y)) L
  | _, _ => False
theorem o_add : OpL X (binaryOp .Add) lAdd := ⟨_, OpR.or op_add op_add_str, fun L H a b x y Ql Q rh ra rb s h => by
  cases a with
  | int i =>
    cases b with
    | int j => exact .inl ⟨i, j, ra.int_inv, rb.int_inv, s (.int (i + j)) L _ H rh .refl rfl h⟩
    | _ => exact h.elim
  | str i =>
    cases b with
    | str j => exact .inr ⟨i, j, ra.str_inv, rb.str_inv, h.1, s (.str (i ++ j)) L _ H rh .refl rfl h.2⟩
    | _ => exact h.elim
  | _ => exact h.elim⟩
def lSub : LR2 := lI0 fun i j => i - j
theorem o_sub : OpL X (binaryOp .Sub) lSub := ⟨_, op_sub, sim_I0⟩
def lMul : LR2 := lI CMul fun i j => i * j
theorem o_mul : OpL X (binaryOp .Mult) lMul := ⟨_, op_mul, sim_I⟩
def lMod : LR2 := lI (fun _ j => 0 < j) fun i j => i % j
theorem o_mod : OpL X (binaryOp .Mod) lMod := ⟨_, op_mod, sim_I⟩
def lDiv : LR2 := lI CDiv fun i j => i / j
theorem o_div : OpL X (binaryOp .FloorDiv) lDiv := ⟨_, op_fdiv, sim_I⟩
def lPow : LR2 := lI CPow fun i j => i ^ j.toNat
theorem o_pow : OpL X (binaryOp .Pow) lPow := ⟨_, op_pow, sim_I⟩
def lLt : LR2 := lB fun i j => decide (i < j)
def lLe : LR2 := lB fun i j => decide (i ≤ j)
def lGt : LR2 := lB fun i j => decide (j < i)
def lGe : LR2 := lB fun i j => decide (j ≤ i)
theorem o_lt : OpL X (compareOp .Lt) lLt := ⟨_, op_lt, sim_B⟩
theorem o_le : OpL X (compareOp .LtE) lLe := ⟨_, op_le, sim_B⟩
theorem o_gt : OpL X (compareOp .Gt) lGt := ⟨_, op_gt, sim_B⟩
theorem o_ge : OpL X (compareOp .GtE) lGe := ⟨_, op_ge, sim_B⟩
/-- xs + ys, xs * k of lists -/
def lCat (fr : Bool) : LR2 := fun a b L Q => match lstOf L a, lstOf L b with
  | some ls, some ms => ls.length + ms.length ≤ sizeLine ∧ newL fr (ls ++ ms) L Q
  | _, _ => False
theorem o_cat {fr : Bool} : OpL X (binaryOp .Add) (lCat fr) := ⟨_, op_cat, fun L H a b x y Ql Q rh ra rb s h => by
  unfold lCat at h
  cases e1 : lstOf L a with
  | none => simp only [e1] at h
  | some ls =>
    cases e2 : lstOf L b with
    | none => simp only [e1, e2] at h
    | some ms =>
      simp only [e1, e2] at h
      obtain ⟨p, xs, rfl, hx, rx⟩ := lstOf_sim rh ra e1
      obtain ⟨q, ys, rfl, hy, ry⟩ := lstOf_sim rh rb e2
      exact ⟨p, q, xs, ys, rfl, rfl, hx, hy, by rw [rx.length, ry.length]; exact h.1, newL_sim rh s (rx.append ry) h.2⟩⟩
theorem RVs.rep {L : LHp} {H : Hp} {ls : List LV} {xs : List V} (r : RVs K L H ls xs) : ∀ k : Nat, RVs K L H (List.replicate k ls).flatten (List.replicate k xs).flatten
  | 0 => .nil
  | k + 1 => by
    rw [List.replicate_succ, List.replicate_succ, List.flatten_cons, List.flatten_cons]
    exact r.append (RVs.rep r k)
def lRep (fr : Bool) : LR2 := fun a b L Q => match lstOf L a, b with
  | some ls, .int k => -(2 ^ 63) ≤ k ∧ k < 2 ^ 63 ∧ ls.length * k.toNat ≤ sizeLine ∧ newL fr (List.replicate k.toNat ls).flatten L Q
  | _, _ => False
theorem o_rep {fr : Bool} : OpL X (binaryOp .Mult) (lRep fr) := ⟨_, op_rep, fun L H a b x y Ql Q rh ra rb s h => by
  unfold lRep at h
  cases e1 : lstOf L a with
  | none => simp only [e1] at h
  | some ls =>
    cases b with
    | int k =>
      simp only [e1] at h
      obtain ⟨p, xs, rfl, hx, rx⟩ := lstOf_sim rh ra e1
      exact ⟨p, k, xs, rfl, rb.int_inv, hx, h.1, h.2.1, by rw [rx.length]; exact h.2.2.1, newL_sim rh s (rx.rep _) h.2.2.2⟩
    | _ => simp only [e1] at h⟩
/-- -a -/
def xNeg (xa : LTE) : LTE := fun σ L Q E => xa σ L (fun a L1 => match a with
  | .int i => Q (.int (-i)) L1
  | _ => False) E
theorem le_neg {e : Expr} {x : LTE} {pos : Pos} (h : LE X e x) : LE X (.UnaryOp .USub e pos) (xNeg x) := fun W tk => by
  refine pe_weak (pe_un un_neg (h W tk)) fun σ H Q h => ?_
  obtain ⟨σl, L, Ql, El, rh, rs, s, sx, h⟩ := h
  refine ⟨σl, L, _, El, rh, rs, fun a L1 v H1 r1 y1 ra h1 => ?_, sx, h⟩
  cases a with
  | int i => exact ⟨i, ra.int_inv, s (.int (-i)) L1 _ H1 r1 y1 rfl h1⟩
  | _ => exact h1.elim

/-! ### data -/
mutual
def LV.dat : LV → Option PyData
  | .non => some .none
  | .bl b => some (.bool b)
  | .int i => some (.int i)
  | .str x => some (.str x)
  | .tup ls => (datAll ls).map PyData.tuple
  | .lst ls => (datAll ls).map PyData.list
  | _ => none
def datAll : List LV → Option (List PyData)
  | [] => some []
  | l :: ls => match LV.dat l, datAll ls with
    | some d, some ds => some (d :: ds)
    | _, _ => none
end
variable {L L' : LHp} {H H' : Hp}
mutual
theorem dat_dp : ∀ (l : LV) (d : PyData) (v : V), l.dat = some d → RV K L H l v → Dp K H v d
  | .non, d, v, e, r => by
    have e' : PyData.none = d := by simpa [LV.dat] using e
    rw [← e', r.non_inv]
    exact .non
  | .bl b, d, v, e, r => by
    have e' : PyData.bool b = d := by simpa [LV.dat] using e
    rw [← e', r.bl_inv]
    exact .bl b
  | .int b, d, v, e, r => by
    have e' : PyData.int b = d := by simpa [LV.dat] using e
    rw [← e', r.int_inv]
    exact .int b
  | .str b, d, v, e, r => by
    have e' : PyData.str b = d := by simpa [LV.dat] using e
    rw [← e', r.str_inv]
    exact .str b
  | .tup ls, d, v, e, r => by
    obtain ⟨ds, e1, e2⟩ := Option.map_eq_some_iff.mp (show (datAll ls).map PyData.tuple = some d by simpa [LV.dat] using e)
    obtain ⟨p, xs, rfl, f, q⟩ := r.tup_inv
    rw [← e2]
    exact .tup f.sq (datAll_dp ls ds xs e1 q)
  | .lst ls, d, v, e, r => by
    obtain ⟨ds, e1, e2⟩ := Option.map_eq_some_iff.mp (show (datAll ls).map PyData.list = some d by simpa [LV.dat] using e)
    obtain ⟨p, xs, rfl, f, q⟩ := r.lst_inv
    rw [← e2]
    exact .lst f.sq (datAll_dp ls ds xs e1 q)
  | .ref a, d, v, e, r => by simp [LV.dat] at e
  | .ty a, d, v, e, r => by simp [LV.dat] at e
  | .wl a, d, v, e, r => by simp [LV.dat] at e
  | .wt a, d, v, e, r => by simp [LV.dat] at e
theorem datAll_dp : ∀ (ls : List LV) (ds : List PyData) (xs : List V), datAll ls = some ds → RVs K L H ls xs → DpAll K H xs ds
  | [], ds, xs, e, r => by
    have e' : ([] : List PyData) = ds := by simpa [datAll] using e
    unfold RVs at r
    rw [← e', r]
    exact .nil
  | l :: ls, ds, xs, e, r => by
    unfold RVs at r
    obtain ⟨y, q, rfl, h1, h2⟩ := r
    unfold datAll at e
    cases e1 : l.dat with
    | none => simp only [e1] at e; cases e
    | some d =>
      cases e2 : datAll ls with
      | none => simp only [e1, e2] at e; cases e
      | some es =>
        simp only [e1, e2] at e
        have e' : d :: es = ds := Option.some.inj e
        rw [← e']
        exact .cons (dat_dp l d y e1 h1) (datAll_dp ls es q e2 h2)
end
/-- data of a value, or of the list at an address -/
def datOf (L : LHp) (l : LV) : Option PyData := match l with
  | .ref p => match L p with
    | some (.lst ls) => (datAll ls).map PyData.list
    | _ => none
  | l => l.dat
theorem datOf_dp (rh : RH K L H) {l : LV} {d : PyData} {v : V} (e : datOf L l = some d) (r : RV K L H l v) : Dp K H v d := by
  cases l with
  | ref p =>
    unfold datOf at e
    cases q : L p with
    | none => simp only [q] at e; cases e
    | some lo =>
      cases lo with
      | lst ls =>
        simp only [q] at e
        obtain ⟨ds, e1, e2⟩ := Option.map_eq_some_iff.mp e
        obtain ⟨xs, hx, rx⟩ := rh.lst q
        rw [← e2, r.ref_inv]
        exact .lst (SqL.of hx) (datAll_dp ls ds xs e1 rx)
      | _ => simp only [q] at e; cases e
  | _ => exact dat_dp _ d v e r
def lEq (ng : Bool) : LR2 := fun a b L Q => match a, b with
  | .str x, .str y => Q (.bl (ng != decide (x = y))) L
  | .int x, .int y => Q (.bl (ng != decide (x = y))) L
  | .bl x, .bl y => Q (.bl (ng != decide (x = y))) L
  | .non, .str _ => Q (.bl ng) L
  | .str _, .non => Q (.bl ng) L
  | a, b => ∃ d e, datOf L a = some d ∧ datOf L b = some e ∧ SeqAt.shaped d = true ∧ SeqAt.shaped e = true ∧ Q (.bl (ng != PyData.eqv d e)) L
theorem bne_ff (b : Bool) : (false != b) = b := by cases b <;> rfl
theorem bne_tt (b : Bool) : (true != b) = !b := by cases b <;> rfl
theorem dstr {x y : Str} : decide (V.str x = V.str y) = decide (x = y) := by
  by_cases h : x = y
  · rw [h]; simp
  · rw [decide_eq_false h, decide_eq_false (fun e => h (V.str.inj e))]
theorem dint {x y : Int} : decide (V.int x = V.int y) = decide (x = y) := by
  by_cases h : x = y
  · rw [h]; simp
  · rw [decide_eq_false h, decide_eq_false (fun e => h (V.int.inj e))]
theorem dbl {x y : Bool} : decide (V.bl x = V.bl y) = decide (x = y) := by
  by_cases h : x = y
  · rw [h]; simp
  · rw [decide_eq_false h, decide_eq_false (fun e => h (V.bl.inj e))]
theorem o_eq (hu : X.A.units + 64 < cLine) : OpL X (compareOp .Eq) (lEq false) := ⟨_, OpR.or op_eq (op_eqD hu), fun L H a b x y Ql Q rh ra rb s h => by
  have dd : (∃ d e, datOf L a = some d ∧ datOf L b = some e ∧ SeqAt.shaped d = true ∧ SeqAt.shaped e = true ∧ Ql (.bl (false != PyData.eqv d e)) L) → rEq x y H Q ∨ rEqD X.K x y H Q := fun ⟨d, e, h1, h2, h3, h4, h5⟩ => by
    refine .inr ⟨d, e, datOf_dp rh h1 ra, datOf_dp rh h2 rb, h3, h4, ?_⟩
    rw [bne_ff] at h5
    exact s (.bl _) L _ H rh .refl rfl h5
  unfold lEq at h
  split at h
  · rw [ra.str_inv, rb.str_inv]
    refine .inl ⟨rfl, ?_⟩
    rw [dstr]
    rw [bne_ff] at h
    exact s (.bl _) L _ H rh .refl rfl h
  · rw [ra.int_inv, rb.int_inv]
    refine .inl ⟨rfl, ?_⟩
    rw [dint]
    rw [bne_ff] at h
    exact s (.bl _) L _ H rh .refl rfl h
  · rw [ra.bl_inv, rb.bl_inv]
    refine .inl ⟨rfl, ?_⟩
    rw [dbl]
    rw [bne_ff] at h
    exact s (.bl _) L _ H rh .refl rfl h
  · rw [ra.non_inv, rb.str_inv]
    refine .inl ⟨rfl, ?_⟩
    exact s (.bl false) L _ H rh .refl rfl h
  · rw [ra.str_inv, rb.non_inv]
    refine .inl ⟨rfl, ?_⟩
    exact s (.bl false) L _ H rh .refl rfl h
  · exact dd h⟩
theorem o_ne (hu : X.A.units + 64 < cLine) : OpL X (compareOp .NotEq) (lEq true) := ⟨_, OpR.or op_ne (op_neD hu), fun L H a b x y Ql Q rh ra rb s h => by
  have dd : (∃ d e, datOf L a = some d ∧ datOf L b = some e ∧ SeqAt.shaped d = true ∧ SeqAt.shaped e = true ∧ Ql (.bl (true != PyData.eqv d e)) L) → rNe x y H Q ∨ rNeD X.K x y H Q := fun ⟨d, e, h1, h2, h3, h4, h5⟩ => by
    refine .inr ⟨d, e, datOf_dp rh h1 ra, datOf_dp rh h2 rb, h3, h4, ?_⟩
    rw [bne_tt] at h5
    exact s (.bl _) L _ H rh .refl rfl h5
  unfold lEq at h
  split at h
  · rw [ra.str_inv, rb.str_inv]
    refine .inl ⟨rfl, ?_⟩
    rw [dstr]
    rw [bne_tt] at h
    exact s (.bl _) L _ H rh .refl rfl h
  · rw [ra.int_inv, rb.int_inv]
    refine .inl ⟨rfl, ?_⟩
    rw [dint]
    rw [bne_tt] at h
    exact s (.bl _) L _ H rh .refl rfl h
  · rw [ra.bl_inv, rb.bl_inv]
    refine .inl ⟨rfl, ?_⟩
    rw [dbl]
    rw [bne_tt] at h
    exact s (.bl _) L _ H rh .refl rfl h
  · rw [ra.non_inv, rb.str_inv]
    refine .inl ⟨rfl, ?_⟩
    exact s (.bl true) L _ H rh .refl rfl h
  · rw [ra.str_inv, rb.non_inv]
    refine .inl ⟨rfl, ?_⟩
    exact s (.bl true) L _ H rh .refl rfl h
  · exact dd h⟩
/-! ### is None -/
def LV.isN : LV → Bool
  | .non => true
  | _ => false
theorem isN_sim {a : LV} {x : V} (r : RV K L H a x) : decide (x = .non) = a.isN := by
  cases a with
  | non => rw [r.non_inv]; rfl
  | bl b => rw [r.bl_inv]; rfl
  | int b => rw [r.int_inv]; rfl
  | str b => rw [r.str_inv]; rfl
  | ref b => rw [r.ref_inv]; rfl
  | ty b =>
    have e : x = .ty b := r
    rw [e]; rfl
  | tup b => obtain ⟨p, xs, rfl, _⟩ := r.tup_inv; rfl
  | lst b => obtain ⟨p, xs, rfl, _⟩ := r.lst_inv; rfl
  | wl b => obtain ⟨p, xs, rfl, _⟩ := r.wl_inv; rfl
  | wt b => obtain ⟨p, xs, rfl, _⟩ := r.wt_inv; rfl
def lIs (ng : Bool) : LR2 := fun a b L Q => match b with
  | .non => Q (.bl (ng != a.isN)) L
  | _ => False
theorem o_is : OpL X (compareOp .Is) (lIs false) := ⟨_, op_isN, fun L H a b x y Ql Q rh ra rb s h => by
  cases b with
  | non =>
    refine ⟨rb.non_inv, ?_⟩
    rw [isN_sim ra]
    have h' : Ql (.bl (false != a.isN)) L := h
    rw [bne_ff] at h'
    exact s (.bl _) L _ H rh .refl rfl h'
  | _ => exact h.elim⟩
theorem o_isnot : OpL X (compareOp .IsNot) (lIs true) := ⟨_, op_notN, fun L H a b x y Ql Q rh ra rb s h => by
  cases b with
  | non =>
    refine ⟨rb.non_inv, ?_⟩
    rw [isN_sim ra]
    have h' : Ql (.bl (true != a.isN)) L := h
    rw [bne_tt] at h'
    exact s (.bl _) L _ H rh .refl rfl h'
  | _ => exact h.elim⟩
end
end LK
set_option Elab.async false
set_option linter.all false
set_option maxRecDepth 100000
set_option maxHeartbeats 2000000
/-! Rules: tables, in, subscripts, slices, built-ins, methods. -/
namespace LK
open PySem PySem.Spec PyProof.Rows L2

/-! ### tables -/
section
variable {κ : Type} [DecidableEq κ] {α : Type}
def vl (kvs : List (κ × α)) (k : κ) : Option α := (kvs.find? fun kv => decide (kv.1 = k)).map (·.2)
def pl (kvs : List (κ × α)) (k : κ) (v : α) : List (κ × α) :=
  if (kvs.any fun kv => decide (kv.1 = k)) = true then kvs.map (fun kv => if kv.1 = k then (kv.1, v) else kv) else kvs ++ [(k, v)]
def dl (kvs : List (κ × α)) (k : κ) : List (κ × α) := kvs.filter fun kv => decide (kv.1 ≠ k)
end
section
variable {κ : Type} [DecidableEq κ] {K : PySem.W.Frag} {L : LHp} {H : Hp}
theorem RKV.nil : RKV (κ := κ) K L H [] [] := rfl
theorem RKV.cons {k : κ} {l : LV} {v : V} {ls : List (κ × LV)} {ys : List (κ × V)} (h : RV K L H l v) (r : RKV K L H ls ys) : RKV K L H ((k, l) :: ls) ((k, v) :: ys) := ⟨v, ys, rfl, h, r⟩
theorem RKV.length : ∀ {ls : List (κ × LV)} {ys : List (κ × V)}, RKV K L H ls ys → ys.length = ls.length
  | [], ys, h => by
    have e : ys = [] := h
    rw [e]; rfl
  | l :: ls, ys, h => by
    obtain ⟨v, r, e, h1, h2⟩ := h
    rw [e, List.length_cons, List.length_cons, RKV.length h2]
theorem RKV.keys : ∀ {ls : List (κ × LV)} {ys : List (κ × V)}, RKV K L H ls ys → ys.map (·.1) = ls.map (·.1)
  | [], ys, h => by
    have e : ys = [] := h
    rw [e]; rfl
  | l :: ls, ys, h => by
    obtain ⟨v, r, e, h1, h2⟩ := h
    rw [e, List.map_cons, List.map_cons, RKV.keys h2]
theorem RKV.some_of : ∀ {ls : List (κ × LV)} {ys : List (κ × V)} {k : κ} {l : LV}, RKV K L H ls ys → vl ls k = some l → ∃ v, valV ys k = some v ∧ RV K L H l v
  | [], ys, k, l, h, e => by cases e
  | (k0, l0) :: ls, ys, k, l, h, e => by
    obtain ⟨v, r, rfl, h1, h2⟩ := h
    by_cases c : k0 = k
    · have e' : l0 = l := by simpa [vl, List.find?_cons, c] using e
      exact ⟨v, valV_pos (p := (k0, v)) c, by rw [← e']; exact h1⟩
    · have e' : vl ls k = some l := by simpa [vl, List.find?_cons, c] using e
      obtain ⟨w, q1, q2⟩ := RKV.some_of h2 e'
      exact ⟨w, by rw [valV_neg (p := (k0, v)) c]; exact q1, q2⟩
theorem RKV.none_of : ∀ {ls : List (κ × LV)} {ys : List (κ × V)} {k : κ}, RKV K L H ls ys → vl ls k = none → valV ys k = none
  | [], ys, k, h, e => by
    have e1 : ys = [] := h
    rw [e1]; rfl
  | (k0, l0) :: ls, ys, k, h, e => by
    obtain ⟨v, r, rfl, h1, h2⟩ := h
    by_cases c : k0 = k
    · simp [vl, List.find?_cons, c] at e
    · have e' : vl ls k = none := by simpa [vl, List.find?_cons, c] using e
      rw [valV_neg (p := (k0, v)) c]
      exact RKV.none_of h2 e'
theorem RKV.isSome {ls : List (κ × LV)} {ys : List (κ × V)} {k : κ} (r : RKV K L H ls ys) : (valV ys k).isSome = (vl ls k).isSome := by
  cases e : vl ls k with
  | none => rw [r.none_of e]; rfl
  | some l =>
    obtain ⟨v, q, _⟩ := r.some_of e
    rw [q]; rfl
theorem RKV.append : ∀ {ls ms : List (κ × LV)} {xs ys : List (κ × V)}, RKV K L H ls xs → RKV K L H ms ys → RKV K L H (ls ++ ms) (xs ++ ys)
  | [], ms, xs, ys, h, g => by
    have e : xs = [] := h
    rw [e]; exact g
  | l :: ls, ms, xs, ys, h, g => by
    obtain ⟨v, r, rfl, h1, h2⟩ := h
    exact ⟨v, r ++ ys, rfl, h1, RKV.append h2 g⟩
theorem RKV.any (k : κ) : ∀ {ls : List (κ × LV)} {ys : List (κ × V)}, RKV K L H ls ys → (ys.any fun kv => decide (kv.1 = k)) = (ls.any fun kv => decide (kv.1 = k))
  | [], ys, h => by
    have e : ys = [] := h
    rw [e]; rfl
  | l :: ls, ys, h => by
    obtain ⟨v, r, rfl, h1, h2⟩ := h
    rw [List.any_cons, List.any_cons, RKV.any k h2]
theorem RKV.repl (k : κ) {l : LV} {v : V} (q : RV K L H l v) : ∀ {ls : List (κ × LV)} {ys : List (κ × V)}, RKV K L H ls ys →
    RKV K L H (ls.map fun kv => if kv.1 = k then (kv.1, l) else kv) (ys.map fun kv => if kv.1 = k then (kv.1, v) else kv)
  | [], ys, h => by
    have e : ys = [] := h
    rw [e]; rfl
  | (k0, l0) :: ls, ys, h => by
    obtain ⟨w, r, rfl, h1, h2⟩ := h
    by_cases c : k0 = k
    · simp only [List.map_cons, if_pos c]
      exact ⟨v, _, rfl, q, RKV.repl k q h2⟩
    · simp only [List.map_cons, if_neg c]
      exact ⟨w, _, rfl, h1, RKV.repl k q h2⟩
theorem RKV.put (k : κ) {l : LV} {v : V} (q : RV K L H l v) {ls : List (κ × LV)} {ys : List (κ × V)} (h : RKV K L H ls ys) : RKV K L H (pl ls k l) (putK ys k v) := by
  unfold pl putK
  rw [h.any k]
  split
  · exact h.repl k q
  · exact h.append (.cons q .nil)
theorem RKV.drop (k : κ) : ∀ {ls : List (κ × LV)} {ys : List (κ × V)}, RKV K L H ls ys → RKV K L H (dl ls k) (dropK ys k)
  | [], ys, h => by
    have e : ys = [] := h
    rw [e]; rfl
  | (k0, l0) :: ls, ys, h => by
    obtain ⟨w, r, rfl, h1, h2⟩ := h
    unfold dl dropK
    rw [List.filter_cons, List.filter_cons]
    by_cases c : decide (k0 ≠ k) = true
    · simp only [if_pos c]
      exact ⟨w, _, rfl, h1, RKV.drop k h2⟩
    · simp only [if_neg c]
      exact RKV.drop k h2
/-! ### fields -/
theorem RKV.lookup {f : Str} : ∀ {ls : List (Str × LV)} {ys : List (Str × V)} {l : LV}, RKV K L H ls ys → ls.lookup f = some l → ∃ v, ys.lookup f = some v ∧ RV K L H l v
  | [], ys, l, h, e => by simp at e
  | (k0, l0) :: ls, ys, l, h, e => by
    obtain ⟨v, r, rfl, h1, h2⟩ := h
    rw [List.lookup_cons] at e ⊢
    cases c : f == k0 with
    | true =>
      simp only [c] at e
      have e' : l0 = l := Option.some.inj e
      exact ⟨v, rfl, by rw [← e']; exact h1⟩
    | false =>
      simp only [c] at e
      exact RKV.lookup h2 e
theorem RKV.lookup_none {f : Str} : ∀ {ls : List (Str × LV)} {ys : List (Str × V)}, RKV K L H ls ys → ls.lookup f = none → ys.lookup f = none
  | [], ys, h, e => by
    have e1 : ys = [] := h
    rw [e1]; rfl
  | (k0, l0) :: ls, ys, h, e => by
    obtain ⟨v, r, rfl, h1, h2⟩ := h
    rw [List.lookup_cons] at e ⊢
    cases c : f == k0 with
    | true =>
      simp only [c] at e
      cases e
    | false =>
      simp only [c] at e
      exact RKV.lookup_none h2 e
def pf (f : Str) (v : LV) : List (Str × LV) → List (Str × LV)
  | [] => [(f, v)]
  | p :: r => if p.1 = f then (f, v) :: r else p :: pf f v r
end
def kL : Key → LV
  | .inl i => .int i
  | .inr x => .str x
def lKey : LV → Option Key
  | .int i => some (.inl i)
  | .str x => some (.inr x)
  | _ => none
def lKeys : List LV → Option (List Key)
  | [] => some []
  | l :: ls => match lKey l, lKeys ls with
    | some k, some ks => some (k :: ks)
    | _, _ => none
section
variable {K : PySem.W.Frag} {L : LHp} {H : Hp}
theorem lKey_sim {a : LV} {k : Key} {x : V} (e : lKey a = some k) (r : RV K L H a x) : x = kV k := by
  cases a with
  | int i =>
    have e' : Sum.inl i = k := Option.some.inj e
    rw [← e', r.int_inv]; rfl
  | str i =>
    have e' : Sum.inr i = k := Option.some.inj e
    rw [← e', r.str_inv]; rfl
  | _ => cases e
theorem lKeys_sim : ∀ {ls : List LV} {ks : List Key} {xs : List V}, lKeys ls = some ks → RVs K L H ls xs → xs = ks.map kV
  | [], ks, xs, e, r => by
    have e' : ([] : List Key) = ks := Option.some.inj e
    unfold RVs at r
    rw [← e', r]; rfl
  | l :: ls, ks, xs, e, r => by
    unfold RVs at r
    obtain ⟨y, q, rfl, h1, h2⟩ := r
    unfold lKeys at e
    cases e1 : lKey l with
    | none => simp only [e1] at e; cases e
    | some k =>
      cases e2 : lKeys ls with
      | none => simp only [e1, e2] at e; cases e
      | some ks' =>
        simp only [e1, e2] at e
        have e' : k :: ks' = ks := Option.some.inj e
        rw [← e', lKey_sim e1 h1, lKeys_sim e2 h2]; rfl
/-- what the table at p holds at a key -/
def dAt (L : LHp) (p : Addr) (b : LV) : Option (Option LV) := match L p with
  | some (.dct kvs) => (lKey b).map fun k => vl kvs k
  | some (.dtt kvs) => match b with
    | .tup ks => (lKeys ks).map fun k => vl kvs k
    | _ => none
  | some (.fdt _ _ kvs) => match b with
    | .tup ks => (lKeys ks).map fun k => vl kvs k
    | _ => none
  | _ => none
theorem dAt_sim (rh : RH K L H) {p : Addr} {b : LV} {o : Option LV} {y : V} (e : dAt L p b = some o) (rb : RV K L H b y) : ∃ ov, DGet H p y ov ∧ ov.isSome = o.isSome ∧ ∀ l, o = some l → ∃ v, ov = some v ∧ RV K L H l v := by
  unfold dAt at e
  cases q : L p with
  | none => simp only [q] at e; cases e
  | some lo =>
    cases lo with
    | dct kvs =>
      simp only [q] at e
      obtain ⟨k, e1, e2⟩ := Option.map_eq_some_iff.mp e
      obtain ⟨ys, hy, ry⟩ := rh.dct q
      refine ⟨valV ys k, .inl ⟨ys, k, .inl hy, lKey_sim e1 rb, rfl⟩, by rw [ry.isSome, e2], fun l el => ?_⟩
      exact ry.some_of (by rw [e2, el])
    | dtt kvs =>
      simp only [q] at e
      cases b with
      | tup ks =>
        simp only at e
        obtain ⟨k, e1, e2⟩ := Option.map_eq_some_iff.mp e
        obtain ⟨ys, hy, ry⟩ := rh.dtt q
        obtain ⟨t, xs, rfl, f, rx⟩ := rb.tup_inv
        refine ⟨valV ys k, .inr ⟨ys, k, t, .inl hy, rfl, by rw [f.2, lKeys_sim e1 rx], rfl⟩, by rw [ry.isSome, e2], fun l el => ?_⟩
        exact ry.some_of (by rw [e2, el])
      | _ => cases e
    | fdt od ys kvs =>
      simp only [q] at e
      cases b with
      | tup ks =>
        simp only at e
        obtain ⟨k, e1, e2⟩ := Option.map_eq_some_iff.mp e
        obtain ⟨u, hu, eu, ry⟩ := rh.at_ p _ q
        subst eu
        obtain ⟨t, xs, rfl, f, rx⟩ := rb.tup_inv
        refine ⟨valV ys k, .inr ⟨ys, k, t, .inr ⟨_, hu⟩, rfl, by rw [f.2, lKeys_sim e1 rx], rfl⟩, by rw [ry.isSome, e2], fun l el => ?_⟩
        exact ry.some_of (by rw [e2, el])
      | _ => cases e
    | _ => simp only [q] at e; cases e
end
section
variable {X : Cx}
/-! ### a[b] -/
def rIxD : R2 := fun x y H Q => ∃ a v, x = .ref a ∧ DGet H a y (some v) ∧ Q v H
theorem ix_dict (hu : X.A.units + 64 < cLine) : IxR X rIxD := by
  intro value slice pins s σ H x y v u Q I rx ry h hs
  obtain ⟨a, w, rfl, g, q⟩ := h
  obtain rfl : v = Value.ref a := rx
  exact tail_any (dict_typeIs I g) PySem.F.slot_dict_getitem.lookup (d_getItem (by omega) I g ry fun w' s3 I3 rw' => ⟨w, H, I3, rw', q⟩) hs
def lIx : LR2 := fun a b L Q => match a with
  | .ref p => match L p with
    | some (.lst ls) => match b with
      | .int i => match atI ls i with
        | some l => Q l L
        | none => False
      | _ => False
    | _ => match dAt L p b with
      | some (some l) => Q l L
      | _ => False
  | .lst ls => match b with
    | .int i => match atI ls i with
      | some l => Q l L
      | none => False
    | _ => False
  | .tup ls => match b with
    | .int i => match atI ls i with
      | some l => Q l L
      | none => False
    | _ => False
  | .str z => match b with
    | .int i => match atI z.cps.toList i with
      | some c => z.length ≤ sizeLine ∧ Q (.str ⟨#[c]⟩) L
      | none => False
    | _ => False
  | _ => False
theorem sim_ix : SimR2 X.K lIx (fun x y H Q => rIx X.K x y H Q ∨ rIxD x y H Q) := fun L H a b x y Ql Q rh ra rb s h => by
  have seq : ∀ {ls : List LV} {i : Int} {l : LV}, b = .int i → atI ls i = some l → Ql l L → ∀ (p : Addr) (xs : List V), RVs X.K L H ls xs → ∃ v, atI xs i = some v ∧ y = .int i ∧ Q v H := fun {ls i l} eb e q p xs rv => by
    obtain ⟨v, e2, r2⟩ := rv.atI e
    rw [eb] at rb
    exact ⟨v, e2, rb.int_inv, s l L v H rh .refl r2 q⟩
  cases a with
  | ref p =>
    have ex := ra.ref_inv
    have other : ∀ o, dAt L p b = some (some o) → Ql o L → rIx X.K x y H Q ∨ rIxD x y H Q := fun o e q => by
      obtain ⟨ov, g, _, hv⟩ := dAt_sim rh e rb
      obtain ⟨v, e2, rv⟩ := hv o rfl
      rw [e2] at g
      exact .inr ⟨p, v, ex, g, s o L v H rh .refl rv q⟩
    have other' : (match dAt L p b with
      | some (some l) => Ql l L
      | _ => False) → rIx X.K x y H Q ∨ rIxD x y H Q := fun q => by
      cases e : dAt L p b with
      | none => simp only [e] at q
      | some o =>
        cases o with
        | none => simp only [e] at q
        | some o =>
          simp only [e] at q
          exact other o e q
    unfold lIx at h
    cases q : L p with
    | none => simp only [q] at h; exact other' h
    | some lo =>
      cases lo with
      | lst ls =>
        simp only [q] at h
        cases b with
        | int i =>
          simp only at h
          cases e : atI ls i with
          | none => simp only [e] at h
          | some l =>
            simp only [e] at h
            obtain ⟨xs, hx, rx⟩ := rh.lst q
            obtain ⟨v, e2, ey, qq⟩ := seq rfl e h p xs rx
            exact .inl (.inl ⟨p, xs, i, v, ex, ey, SqL.of hx, e2, qq⟩)
        | _ => exact h.elim
      | dct _ => simp only [q] at h; exact other' h
      | dtt _ => simp only [q] at h; exact other' h
      | fdt _ _ _ => simp only [q] at h; exact other' h
      | ins _ _ => simp only [q] at h; exact other' h
  | lst ls =>
    unfold lIx at h
    cases b with
    | int i =>
      simp only at h
      cases e : atI ls i with
      | none => simp only [e] at h
      | some l =>
        simp only [e] at h
        obtain ⟨p, xs, rfl, f, rx⟩ := ra.lst_inv
        obtain ⟨v, e2, ey, qq⟩ := seq rfl e h p xs rx
        exact .inl (.inl ⟨p, xs, i, v, rfl, ey, f.sq, e2, qq⟩)
    | _ => exact h.elim
  | tup ls =>
    unfold lIx at h
    cases b with
    | int i =>
      simp only at h
      cases e : atI ls i with
      | none => simp only [e] at h
      | some l =>
        simp only [e] at h
        obtain ⟨p, xs, rfl, f, rx⟩ := ra.tup_inv
        obtain ⟨v, e2, ey, qq⟩ := seq rfl e h p xs rx
        exact .inl (.inr (.inl ⟨p, xs, i, v, rfl, ey, f.sq, e2, qq⟩))
    | _ => exact h.elim
  | str z =>
    unfold lIx at h
    cases b with
    | int i =>
      simp only at h
      cases e : atI z.cps.toList i with
      | none => simp only [e] at h
      | some c =>
        simp only [e] at h
        exact .inl (.inr (.inr ⟨z, i, c, ra.str_inv, rb.int_inv, h.1, e, s (.str ⟨#[c]⟩) L _ H rh .refl rfl h.2⟩))
    | _ => exact h.elim
  | _ => exact h.elim
theorem le_ix {e1 e2 : Expr} {x1 x2 : LTE} {pos : Pos} (hu : X.A.units + 64 < cLine) (ha : LE X e1 x1) (hb : LE X e2 x2) (hs : PlainIx e2 := by intro _ _; rfl) : LE X (.Subscript e1 e2 pos) (xBin lIx x1 x2) := fun W tk =>
  pe_weak (pe_ix (ix_seq.or (ix_dict hu)) (ha W tk) (hb W tk) hs) fun σ H Q h => up_bin sim_ix h
/-! ### a[lo:hi] -/
def cutL (xs : List LV) (lo hi : Option Int) : List LV := (xs.drop (HT.sIx xs.length 0 lo)).take (HT.sIx xs.length xs.length hi - HT.sIx xs.length 0 lo)
abbrev LTO := LSt → LHp → (Option Int → LHp → Prop) → XL → Prop
def xPart (x : LTE) : LTO := fun σ L Q E => x σ L (fun a L1 => match a with
  | .int i => Q (some i) L1
  | _ => False) E
def xNoPart : LTO := fun _ L Q _ => Q none L
def SimO (K : PySem.W.Frag) (L : LHp) (H : Hp) (Ql : Option Int → LHp → Prop) (Q : Option Int → Hp → Prop) : Prop := ∀ b L' H', RH K L' H' → Ext L H L' H' → Ql b L' → Q b H'
def upO (K : PySem.W.Frag) (W : WX) (x : LTO) : TO := fun σ H Q => ∃ σl L Ql El, RH K L H ∧ RS K L H σl σ ∧ SimO K L H Ql Q ∧ SimX K L H El W ∧ x σl L Ql El
def LO_ (X : Cx) (e : Option Expr) (x : LTO) : Prop := ∀ W, L2N.Takes X W → PO X e (upO X.K W x)
theorem po_weak {e : Option Expr} {t t' : TO} (h : PO X e t) (w : ∀ σ H Q, t' σ H Q → t σ H Q) : PO X e t' := ⟨fun pins s σ H Q I q => h.run pins s σ H Q I (w _ _ _ q)⟩
theorem lo_none : LO_ X none xNoPart := fun W _ => by
  refine po_weak po_none fun σ H Q h => ?_
  obtain ⟨σl, L, Ql, El, rh, rs, s, sx, h⟩ := h
  exact s none L H rh .refl h
theorem lo_some {e : Expr} {x : LTE} (h : LE X e x) : LO_ X (some e) (xPart x) := fun W tk => by
  refine po_weak (po_some (h W tk)) fun σ H Q h => ?_
  obtain ⟨σl, L, Ql, El, rh, rs, s, sx, h⟩ := h
  refine ⟨σl, L, _, El, rh, rs, fun a L1 v H1 r1 y1 ra h1 => ?_, sx, h⟩
  cases a with
  | int i => exact ⟨i, ra.int_inv, s (some i) L1 H1 r1 y1 h1⟩
  | _ => exact h1.elim
def lSl (fr : Bool) (a : LV) (lo hi : Option Int) (L : LHp) (Q : QL) : Prop := match a with
  | .str z => z.length ≤ sizeLine ∧ Q (.str (cutS z lo hi)) L
  | .tup ls => ¬ (HT.sIx ls.length 0 lo = 0 ∧ HT.sIx ls.length ls.length hi = ls.length) ∧ Q (.tup (cutL ls lo hi)) L
  | a => match lstOf L a with
    | some ls => newL fr (cutL ls lo hi) L Q
    | none => False
theorem cut_sim {K : PySem.W.Frag} {L : LHp} {H : Hp} {ls : List LV} {xs : List V} (r : RVs K L H ls xs) (lo hi : Option Int) : RVs K L H (cutL ls lo hi) (cutV xs lo hi) := by
  unfold cutL cutV
  rw [r.length]
  exact (r.drop _).take _
def xSl (fr : Bool) (xe : LTE) (xl xh : LTO) : LTE := fun σ L Q E => xe σ L (fun a L1 => xl σ L1 (fun lo L2 => xh σ L2 (fun hi L3 => lSl fr a lo hi L3 Q) E) E) E
theorem le_sl {fr : Bool} {e : Expr} {lo hi : Option Expr} {p2 pos : Pos} {xe : LTE} {xl xh : LTO} (he : LE X e xe) (hl : LO_ X lo xl) (hh : LO_ X hi xh) : LE X (.Subscript e (.Slice lo hi none p2) pos) (xSl fr xe xl xh) := fun W tk => by
  refine pe_weak (pe_slice (SlR.or sl_str (SlR.or sl_tup sl_list)) (he W tk) (hl W tk) (hh W tk)) fun σ H Q h => ?_
  obtain ⟨σl, L, Ql, El, rh, rs, s, sx, h⟩ := h
  refine ⟨σl, L, _, El, rh, rs, fun a L1 x H1 r1 y1 ra h1 => ?_, sx, h⟩
  refine ⟨σl, L1, _, El, r1, rs.ext y1, fun lo L2 H2 r2 y2 h2 => ?_, sx.ext y1, h1⟩
  refine ⟨σl, L2, _, El, r2, rs.ext (y1.trans y2), fun hi L3 H3 r3 y3 h3 => ?_, sx.ext (y1.trans y2), h2⟩
  have ra3 := RV.ext (y2.trans y3) a x ra
  have s3 := s.ext ((y1.trans y2).trans y3)
  unfold lSl at h3
  split at h3
  · exact .inl ⟨_, ra3.str_inv, h3.1, s3 (.str _) L3 _ H3 r3 .refl rfl h3.2⟩
  · obtain ⟨p, xs, rfl, f, rx⟩ := ra3.tup_inv
    refine .inr (.inl ⟨p, xs, rfl, f.sq, by rw [rx.length]; exact h3.1, fun q hq => ?_⟩)
    exact s3 _ L3 _ _ (r3.frz hq) (Ext.frz r3 hq) (.of_tup ⟨r3.fresh hq, upd_same⟩ ((cut_sim rx lo hi).ext (Ext.frz r3 hq))) h3.2
  · cases q : lstOf L3 a with
    | none => simp only [q] at h3
    | some ls =>
      simp only [q] at h3
      obtain ⟨p, xs, rfl, hx, rx⟩ := lstOf_sim r3 ra3 q
      exact .inr (.inr ⟨p, xs, rfl, SqL.of hx, newL_sim r3 s3 (cut_sim rx lo hi) h3⟩)
end
end LK
set_option Elab.async false
set_option linter.all false
set_option maxRecDepth 100000
set_option maxHeartbeats 2000000
/-! Rules: in, built-ins, methods. -/
namespace LK
open PySem PySem.Spec PyProof.Rows L2

/-! ### in -/
def lflat : LV → Bool
  | .non => true
  | .bl _ => true
  | .int _ => true
  | .str _ => true
  | _ => false
def leqf : LV → LV → Bool
  | .non, .non => true
  | .bl a, .bl b => a == b
  | .bl a, .int b => (if a then 1 else 0) == b
  | .int a, .bl b => a == (if b then 1 else 0)
  | .int a, .int b => a == b
  | .str a, .str b => a == b
  | _, _ => false
section
variable {K : PySem.W.Frag} {L : LHp} {H : Hp}
theorem flat_sim {a : LV} {x : V} (r : RV K L H a x) (h : lflat a = true) : flatV x = true := by
  cases a with
  | non => rw [r.non_inv]; rfl
  | bl b => rw [r.bl_inv]; rfl
  | int b => rw [r.int_inv]; rfl
  | str b => rw [r.str_inv]; rfl
  | _ => cases h
theorem eqf_sim {a b : LV} {x y : V} (r : RV K L H a x) (q : RV K L H b y) (h : lflat a = true) (h' : lflat b = true) : eqV x y = leqf a b := by
  cases a with
  | non => cases b with
    | non => rw [r.non_inv, q.non_inv]; rfl
    | bl b => rw [r.non_inv, q.bl_inv]; rfl
    | int b => rw [r.non_inv, q.int_inv]; rfl
    | str b => rw [r.non_inv, q.str_inv]; rfl
    | _ => cases h'
  | bl a => cases b with
    | non => rw [r.bl_inv, q.non_inv]; rfl
    | bl b => rw [r.bl_inv, q.bl_inv]; rfl
    | int b => rw [r.bl_inv, q.int_inv]; rfl
    | str b => rw [r.bl_inv, q.str_inv]; rfl
    | _ => cases h'
  | int a => cases b with
    | non => rw [r.int_inv, q.non_inv]; rfl
    | bl b => rw [r.int_inv, q.bl_inv]; rfl
    | int b => rw [r.int_inv, q.int_inv]; rfl
    | str b => rw [r.int_inv, q.str_inv]; rfl
    | _ => cases h'
  | str a => cases b with
    | non => rw [r.str_inv, q.non_inv]; rfl
    | bl b => rw [r.str_inv, q.bl_inv]; rfl
    | int b => rw [r.str_inv, q.int_inv]; rfl
    | str b => rw [r.str_inv, q.str_inv]; rfl
    | _ => cases h'
  | _ => cases h
theorem flats_sim : ∀ {ls : List LV} {xs : List V}, RVs K L H ls xs → ls.all lflat = true → xs.all flatV = true
  | [], xs, r, h => by
    unfold RVs at r
    rw [r]; rfl
  | l :: ls, xs, r, h => by
    unfold RVs at r
    obtain ⟨y, q, rfl, h1, h2⟩ := r
    rw [List.all_cons, Bool.and_eq_true] at h ⊢
    exact ⟨flat_sim h1 h.1, flats_sim h2 h.2⟩
theorem inV_sim {a : LV} {x : V} (ra : RV K L H a x) (fa : lflat a = true) : ∀ {ls : List LV} {xs : List V}, RVs K L H ls xs → ls.all lflat = true → inV x xs = ls.any fun y => leqf y a
  | [], xs, r, h => by
    unfold RVs at r
    rw [r]; rfl
  | l :: ls, xs, r, h => by
    unfold RVs at r
    obtain ⟨y, q, rfl, h1, h2⟩ := r
    rw [List.all_cons, Bool.and_eq_true] at h
    have ih := inV_sim ra fa h2 h.2
    unfold inV at ih ⊢
    rw [List.any_cons, List.any_cons, eqf_sim h1 ra h.1 fa, ih]
end
def lIn (ng : Bool) : LR2 := fun a b L Q => match b with
  | .str z => match a with
    | .str c => ∃ n, c = ⟨#[n]⟩ ∧ Q (.bl (ng != decide (n ∈ z.cps.toList))) L
    | _ => False
  | .tup ls => lflat a = true ∧ ls.all lflat = true ∧ Q (.bl (ng != ls.any fun y => leqf y a)) L
  | .wt ls => lflat a = true ∧ ls.all lflat = true ∧ Q (.bl (ng != ls.any fun y => leqf y a)) L
  | .lst ls => ∃ d ds, datOf L a = some d ∧ datAll ls = some ds ∧ SeqAt.shaped d = true ∧ SeqAt.shaped (.list ds) = true ∧ Q (.bl (ng != ds.any fun z => PyData.eqv z d)) L
  | .ref p => match L p with
    | some (.lst ls) => ∃ d ds, datOf L a = some d ∧ datAll ls = some ds ∧ SeqAt.shaped d = true ∧ SeqAt.shaped (.list ds) = true ∧ Q (.bl (ng != ds.any fun z => PyData.eqv z d)) L
    | _ => match dAt L p a with
      | some o => Q (.bl (ng != o.isSome)) L
      | none => False
  | _ => False
section
variable {X : Cx}
def rInK : R2 := fun x y H Q => ∃ a o, y = .ref a ∧ DGet H a x o ∧ Q (.bl o.isSome) H
def rNotInK : R2 := fun x y H Q => ∃ a o, y = .ref a ∧ DGet H a x o ∧ Q (.bl (!o.isSome)) H
theorem op_inK (hu : X.A.units + 65 < cLine) : OpR X (compareOp .In) rInK := by
  intro pins s σ H x y v u Q I rx ry h
  obtain ⟨a, o, rfl, g, q⟩ := h
  obtain rfl : u = Value.ref a := ry
  exact d_in (by omega) I g rx fun s3 I3 => ⟨.bl o.isSome, H, I3, rfl, q⟩
theorem op_notInK (hu : X.A.units + 65 < cLine) : OpR X (compareOp .NotIn) rNotInK := by
  intro pins s σ H x y v u Q I rx ry h
  obtain ⟨a, o, rfl, g, q⟩ := h
  obtain rfl : u = Value.ref a := ry
  exact d_notIn (by omega) I g rx fun s3 I3 => ⟨.bl (!o.isSome), H, I3, rfl, q⟩
theorem o_in (hu : X.A.units + 65 < cLine) : OpL X (compareOp .In) (lIn false) := ⟨_, OpR.or op_in_sign (OpR.or (op_inK hu) (OpR.or op_in_seq (op_inD hu))), fun L H a b x y Ql Q rh ra rb s h => by
  have fin : ∀ k : Bool, Ql (.bl (false != k)) L → Q (.bl k) H := fun k q => by
    rw [bne_ff] at q
    exact s (.bl k) L _ H rh .refl rfl q
  unfold lIn at h
  cases b with
  | str z =>
    cases a with
    | str c =>
      obtain ⟨n, rfl, q⟩ := h
      exact .inl ⟨n, z, ra.str_inv, rb.str_inv, fin _ q⟩
    | _ => exact h.elim
  | tup ls =>
    obtain ⟨h1, h2, q⟩ := h
    obtain ⟨p, xs, rfl, f, rx⟩ := rb.tup_inv
    refine .inr (.inr (.inl ⟨p, xs, rfl, .inr f.sq, flat_sim ra h1, flats_sim rx h2, ?_⟩))
    rw [if_neg Bool.false_ne_true, inV_sim ra h1 rx h2]
    exact fin _ q
  | wt ls =>
    obtain ⟨h1, h2, q⟩ := h
    obtain ⟨p, xs, rfl, f, rx⟩ := rb.wt_inv
    refine .inr (.inr (.inl ⟨p, xs, rfl, .inr f.sq, flat_sim ra h1, flats_sim rx h2, ?_⟩))
    rw [if_neg Bool.false_ne_true, inV_sim ra h1 rx h2]
    exact fin _ q
  | lst ls =>
    obtain ⟨d, ds, h1, h2, h3, h4, q⟩ := h
    obtain ⟨p, xs, rfl, f, rx⟩ := rb.lst_inv
    exact .inr (.inr (.inr ⟨d, ds, datOf_dp rh h1 ra, .lst f.sq (datAll_dp ls ds xs h2 rx), h3, h4, fin _ q⟩))
  | ref p =>
    have eb := rb.ref_inv
    subst eb
    have other : (match dAt L p a with
      | some o => Ql (.bl (false != o.isSome)) L
      | none => False) → rInK x (.ref p) H Q := fun q => by
      cases e : dAt L p a with
      | none => simp only [e] at q
      | some o =>
        simp only [e] at q
        obtain ⟨ov, g, es, _⟩ := dAt_sim rh e ra
        exact ⟨p, ov, rfl, g, by rw [es]; exact fin _ q⟩
    simp only at h
    cases q : L p with
    | none => simp only [q] at h; exact .inr (.inl (other h))
    | some lo =>
      cases lo with
      | lst ls =>
        simp only [q] at h
        obtain ⟨d, ds, h1, h2, h3, h4, qq⟩ := h
        obtain ⟨xs, hx, rx⟩ := rh.lst q
        exact .inr (.inr (.inr ⟨d, ds, datOf_dp rh h1 ra, .lst (SqL.of hx) (datAll_dp ls ds xs h2 rx), h3, h4, fin _ qq⟩))
      | dct _ => simp only [q] at h; exact .inr (.inl (other h))
      | dtt _ => simp only [q] at h; exact .inr (.inl (other h))
      | fdt _ _ _ => simp only [q] at h; exact .inr (.inl (other h))
      | ins _ _ => simp only [q] at h; exact .inr (.inl (other h))
  | _ => exact h.elim⟩
theorem o_notin (hu : X.A.units + 65 < cLine) : OpL X (compareOp .NotIn) (lIn true) := ⟨_, OpR.or op_notIn_sign (OpR.or (op_notInK hu) (OpR.or op_notIn_seq (op_notInD hu))), fun L H a b x y Ql Q rh ra rb s h => by
  have fin : ∀ k : Bool, Ql (.bl (true != k)) L → Q (.bl (!k)) H := fun k q => by
    rw [bne_tt] at q
    exact s (.bl (!k)) L _ H rh .refl rfl q
  unfold lIn at h
  cases b with
  | str z =>
    cases a with
    | str c =>
      obtain ⟨n, rfl, q⟩ := h
      exact .inl ⟨n, z, ra.str_inv, rb.str_inv, fin _ q⟩
    | _ => exact h.elim
  | tup ls =>
    obtain ⟨h1, h2, q⟩ := h
    obtain ⟨p, xs, rfl, f, rx⟩ := rb.tup_inv
    refine .inr (.inr (.inl ⟨p, xs, rfl, .inr f.sq, flat_sim ra h1, flats_sim rx h2, ?_⟩))
    rw [if_pos rfl, inV_sim ra h1 rx h2]
    exact fin _ q
  | wt ls =>
    obtain ⟨h1, h2, q⟩ := h
    obtain ⟨p, xs, rfl, f, rx⟩ := rb.wt_inv
    refine .inr (.inr (.inl ⟨p, xs, rfl, .inr f.sq, flat_sim ra h1, flats_sim rx h2, ?_⟩))
    rw [if_pos rfl, inV_sim ra h1 rx h2]
    exact fin _ q
  | lst ls =>
    obtain ⟨d, ds, h1, h2, h3, h4, q⟩ := h
    obtain ⟨p, xs, rfl, f, rx⟩ := rb.lst_inv
    exact .inr (.inr (.inr ⟨d, ds, datOf_dp rh h1 ra, .lst f.sq (datAll_dp ls ds xs h2 rx), h3, h4, fin _ q⟩))
  | ref p =>
    have eb := rb.ref_inv
    subst eb
    have other : (match dAt L p a with
      | some o => Ql (.bl (true != o.isSome)) L
      | none => False) → rNotInK x (.ref p) H Q := fun q => by
      cases e : dAt L p a with
      | none => simp only [e] at q
      | some o =>
        simp only [e] at q
        obtain ⟨ov, g, es, _⟩ := dAt_sim rh e ra
        exact ⟨p, ov, rfl, g, by rw [es]; exact fin _ q⟩
    simp only at h
    cases q : L p with
    | none => simp only [q] at h; exact .inr (.inl (other h))
    | some lo =>
      cases lo with
      | lst ls =>
        simp only [q] at h
        obtain ⟨d, ds, h1, h2, h3, h4, qq⟩ := h
        obtain ⟨xs, hx, rx⟩ := rh.lst q
        exact .inr (.inr (.inr ⟨d, ds, datOf_dp rh h1 ra, .lst (SqL.of hx) (datAll_dp ls ds xs h2 rx), h3, h4, fin _ qq⟩))
      | dct _ => simp only [q] at h; exact .inr (.inl (other h))
      | dtt _ => simp only [q] at h; exact .inr (.inl (other h))
      | fdt _ _ _ => simp only [q] at h; exact .inr (.inl (other h))
      | ins _ _ => simp only [q] at h; exact .inr (.inl (other h))
  | _ => exact h.elim⟩

/-! ### calls of built-ins -/
abbrev LC := List LV → LHp → QL → Prop
def SimC (K : PySem.W.Frag) (lr : LC) (r : List V → Hp → VK → Prop) : Prop := ∀ L H as xs Ql Q, RH K L H → RVs K L H as xs → SimV K L H Ql Q → lr as L Ql → r xs H Q
def CallL (X : Cx) (f : Value) (lr : LC) : Prop := ∃ r, CallR X f r ∧ SimC X.K lr r
def xCB (lr : LC) (t : LTA) : LTE := fun σ L Q E => t σ L (fun as L1 => lr as L1 Q) E
theorem up_cb {K : PySem.W.Frag} {W : WX} {lr : LC} {r : List V → Hp → VK → Prop} {t : LTA} (sr : SimC K lr r) {σ : St} {H : Hp} {Q : VK} (h : upE K W (xCB lr t) σ H Q) : tCB r (upA K W t) σ H Q := by
  obtain ⟨σl, L, Ql, El, rh, rs, s, sx, h⟩ := h
  exact ⟨σl, L, _, El, rh, rs, fun as L1 xs H1 r1 y1 ra h1 => sr L1 H1 as xs Ql Q r1 ra (s.ext y1) h1, sx, h⟩
variable {e : Expr} {es : List Expr} {n : Str} {p pos : Pos} {t : LTA} {lr : LC}
theorem le_cb {id : String} (hc : CallL X (.builtin id) lr) (hm : X.mg n = none) (ha : LA X (e :: es) t) (hg : Gl X n := by rfl) (hv : bootBuiltins n = some (.builtin id) := by decide +kernel) (hn : n ≠ "__name__" := by decide) (hdb : (n == ("__debug__" : Str)) = false := by decide)
    (he : starEach (e :: es) X.env = (false, eval e X.env) :: starEach es X.env := by rfl) (hpl : (backTo pos (starEach es X.env)).any (·.1) = false := by rfl) : LE X (.Call (.Name n p) (e :: es) [] pos) (xCB lr t) := fun W tk => by
  obtain ⟨r, hr, sr⟩ := hc
  exact pe_weak (pe_callB hr hg hm hv (ha W tk) hn hdb he hpl) fun σ H Q h => up_cb sr h
theorem le_ct {T : String} (hc : CallL X (.type T) lr) (hm : X.mg n = none) (ha : LA X (e :: es) t) (hg : Gl X n := by rfl) (hv : bootBuiltins n = some (.type T) := by decide +kernel) (hn : n ≠ "__name__" := by decide) (hdb : (n == ("__debug__" : Str)) = false := by decide)
    (he : starEach (e :: es) X.env = (false, eval e X.env) :: starEach es X.env := by rfl) (hpl : (backTo pos (starEach es X.env)).any (·.1) = false := by rfl) : LE X (.Call (.Name n p) (e :: es) [] pos) (xCB lr t) := fun W tk => by
  obtain ⟨r, hr, sr⟩ := hc
  exact pe_weak (pe_callTy hr hg hm hv (ha W tk) hn hdb he hpl) fun σ H Q h => up_cb sr h
theorem le_bty {T : String} (hm : X.mg n = none) (hg : Gl X n := by rfl) (hv : bootBuiltins n = some (.type T) := by decide +kernel) (hn : n ≠ "__name__" := by decide) (hdb : (n == ("__debug__" : Str)) = false := by decide) : LE X (.Name n pos) (xC (.ty T)) :=
  le_c (pe_bltn hg hm hv (v := .ty T) rfl hn hdb) fun _ _ => rfl
theorem RVs.one {K : PySem.W.Frag} {L : LHp} {H : Hp} {a : LV} {xs : List V} (r : RVs K L H [a] xs) : ∃ x, xs = [x] ∧ RV K L H a x := by
  unfold RVs at r
  obtain ⟨x, q, rfl, h1, h2⟩ := r
  unfold RVs at h2
  rw [h2]
  exact ⟨x, rfl, h1⟩
theorem RVs.two {K : PySem.W.Frag} {L : LHp} {H : Hp} {a b : LV} {xs : List V} (r : RVs K L H [a, b] xs) : ∃ x y, xs = [x, y] ∧ RV K L H a x ∧ RV K L H b y := by
  unfold RVs at r
  obtain ⟨x, q, rfl, h1, h2⟩ := r
  obtain ⟨y, rfl, h3⟩ := h2.one
  exact ⟨x, y, rfl, h1, h3⟩
/-! len -/
def lLen : LC := fun as L Q => match as with
  | [.str z] => z.length ≤ sizeLine ∧ Q (.int z.length) L
  | [a] => match tupOf a with
    | some ls => Q (.int ls.length) L
    | none => match lstOf L a with
      | some ls => Q (.int ls.length) L
      | none => False
  | _ => False
theorem c_len : CallL X (.builtin "len") lLen := ⟨_, call_len, fun L H as xs Ql Q rh ras s h => by
  unfold lLen at h
  split at h
  · obtain ⟨x, rfl, ra⟩ := ras.one
    rw [ra.str_inv]
    exact ⟨_, _, rfl, ⟨h.1, rfl⟩, s (.int _) L _ H rh .refl rfl h.2⟩
  · rename_i a _
    obtain ⟨x, rfl, ra⟩ := ras.one
    cases e1 : tupOf a with
    | some ls =>
      simp only [e1] at h
      obtain ⟨p, xs, rfl, hq, rx⟩ := tupOf_sim ra e1
      exact ⟨_, _, rfl, .inr ⟨xs, hq, rfl⟩, by rw [rx.length]; exact s (.int _) L _ H rh .refl rfl h⟩
    | none =>
      simp only [e1] at h
      cases e2 : lstOf L a with
      | none => simp only [e2] at h
      | some ls =>
        simp only [e2] at h
        obtain ⟨p, xs, rfl, hq, rx⟩ := lstOf_sim rh ra e2
        exact ⟨_, _, rfl, .inl ⟨xs, SqL.of hq, rfl⟩, by rw [rx.length]; exact s (.int _) L _ H rh .refl rfl h⟩
  · exact h.elim⟩
/-! max, min of two -/
def lMax : LC := fun as L Q => match as with
  | [.int i, .int j] => Q (.int (if j > i then j else i)) L
  | _ => False
def lMin : LC := fun as L Q => match as with
  | [.int i, .int j] => Q (.int (if j < i then j else i)) L
  | _ => False
theorem c_max (hc : X.calm = true) : CallL X (.builtin "max") lMax := ⟨_, call_max2 hc, fun L H as xs Ql Q rh ras s h => by
  unfold lMax at h
  split at h
  · obtain ⟨x, y, rfl, ra, rb⟩ := ras.two
    exact ⟨_, _, by rw [ra.int_inv, rb.int_inv], s (.int _) L _ H rh .refl rfl h⟩
  · exact h.elim⟩
theorem c_min (hc : X.calm = true) : CallL X (.builtin "min") lMin := ⟨_, call_min2 hc, fun L H as xs Ql Q rh ras s h => by
  unfold lMin at h
  split at h
  · obtain ⟨x, y, rfl, ra, rb⟩ := ras.two
    exact ⟨_, _, by rw [ra.int_inv, rb.int_inv], s (.int _) L _ H rh .refl rfl h⟩
  · exact h.elim⟩
/-! int, str -/
def lInt : LC := fun as L Q => match as with
  | [.int i] => Q (.int i) L
  | [.bl k] => Q (.int (if k then 1 else 0)) L
  | [.str a] => ∃ n, PySem.intText? a = some n ∧ a.length ≤ 640 ∧ Q (.int n) L
  | _ => False
theorem c_int : CallL X (.type "int") lInt := ⟨_, CallR.or call_int1 call_int_str, fun L H as xs Ql Q rh ras s h => by
  unfold lInt at h
  split at h
  · obtain ⟨x, rfl, ra⟩ := ras.one
    exact .inl (.inl ⟨_, by rw [ra.int_inv], s (.int _) L _ H rh .refl rfl h⟩)
  · obtain ⟨x, rfl, ra⟩ := ras.one
    exact .inl (.inr ⟨_, by rw [ra.bl_inv], s (.int _) L _ H rh .refl rfl h⟩)
  · obtain ⟨x, rfl, ra⟩ := ras.one
    obtain ⟨m, h1, h2, h3⟩ := h
    exact .inr ⟨_, m, by rw [ra.str_inv], h1, h2, s (.int _) L _ H rh .refl rfl h3⟩
  · exact h.elim⟩
def lStr : LC := fun as L Q => match as with
  | [.int i] => i.natAbs.log2 < 1920 ∧ Q (.str (toString i)) L
  | _ => False
theorem c_str : CallL X (.type "str") lStr := ⟨_, call_str_int, fun L H as xs Ql Q rh ras s h => by
  unfold lStr at h
  split at h
  · obtain ⟨x, rfl, ra⟩ := ras.one
    exact ⟨_, by rw [ra.int_inv], h.1, s (.str _) L _ H rh .refl rfl h.2⟩
  · exact h.elim⟩
/-! list, tuple -/
def lList (fr : Bool) : LC := fun as L Q => match as with
  | [a] => match tupOf a with
    | some ls => newL fr ls L Q
    | none => match a with
      | .wl ls => newL fr ls L Q
      | _ => match lstOf L a with
        | some ls => newL fr ls L Q
        | none => False
  | _ => False
theorem c_list {fr : Bool} : CallL X (.type "list") (lList fr) := ⟨_, call_list_of, fun L H as xs Ql Q rh ras s h => by
  unfold lList at h
  split at h
  · obtain ⟨x, rfl, ra⟩ := ras.one
    rename_i a
    cases e1 : tupOf a with
    | some ls =>
      simp only [e1] at h
      obtain ⟨p, xs, rfl, hq, rx⟩ := tupOf_sim ra e1
      exact ⟨_, _, rfl, .inr hq, newL_sim rh s rx h⟩
    | none =>
      simp only [e1] at h
      split at h
      · obtain ⟨p, xs, rfl, hq, rx⟩ := ra.wl_inv
        exact ⟨_, _, rfl, .inl hq.sq, newL_sim rh s rx h⟩
      · cases e2 : lstOf L a with
        | none => simp only [e2] at h
        | some ls =>
          simp only [e2] at h
          obtain ⟨p, xs, rfl, hq, rx⟩ := lstOf_sim rh ra e2
          exact ⟨_, _, rfl, .inl (SqL.of hq), newL_sim rh s rx h⟩
  · exact h.elim⟩
def lTuple : LC := fun as L Q => match as with
  | [a] => match lstOf L a with
    | some ls => Q (.tup ls) L
    | none => False
  | _ => False
theorem c_tuple : CallL X (.type "tuple") lTuple := ⟨_, call_tuple_of, fun L H as xs Ql Q rh ras s h => by
  unfold lTuple at h
  split at h
  · obtain ⟨x, rfl, ra⟩ := ras.one
    rename_i a
    cases e2 : lstOf L a with
    | none => simp only [e2] at h
    | some ls =>
      simp only [e2] at h
      obtain ⟨p, xs, rfl, hq, rx⟩ := lstOf_sim rh ra e2
      exact ⟨_, _, rfl, .inl ⟨SqL.of hq, fun q hq => s _ L _ _ (rh.frz hq) (Ext.frz rh hq) (.of_tup ⟨rh.fresh hq, upd_same⟩ (rx.ext (Ext.frz rh hq))) h⟩⟩
  · exact h.elim⟩
/-! isinstance -/
def lty (L : LHp) : LV → Option String
  | .non => some "NoneType"
  | .bl _ => some "bool"
  | .int _ => some "int"
  | .str _ => some "str"
  | .lst _ => some "list"
  | .tup _ => some "tuple"
  | .ref p => match L p with
    | some (.lst _) => some "list"
    | some (.dct _) => some "dict"
    | some (.dtt _) => some "dict"
    | _ => none
  | _ => none
theorem lty_sim {K : PySem.W.Frag} {L : LHp} {H : Hp} (rh : RH K L H) {a : LV} {x : V} (r : RV K L H a x) {t : String} (e : lty L a = some t) : TyX K H x (.type t) := by
  cases a with
  | non => have e' := Option.some.inj e; rw [← e', r.non_inv]; exact .base .non
  | bl b => have e' := Option.some.inj e; rw [← e', r.bl_inv]; exact .base (.bl b)
  | int b => have e' := Option.some.inj e; rw [← e', r.int_inv]; exact .base (.int b)
  | str b => have e' := Option.some.inj e; rw [← e', r.str_inv]; exact .base (.str b)
  | lst ls =>
    have e' := Option.some.inj e
    obtain ⟨p, xs, rfl, f, _⟩ := r.lst_inv
    rw [← e']; exact .base (.lst f.2)
  | tup ls =>
    have e' := Option.some.inj e
    obtain ⟨p, xs, rfl, f, _⟩ := r.tup_inv
    rw [← e']; exact .base (.tup f.2)
  | ref p =>
    rw [r.ref_inv]
    unfold lty at e
    cases q : L p with
    | none => simp only [q] at e; cases e
    | some lo =>
      cases lo with
      | lst ls =>
        simp only [q] at e
        obtain ⟨xs, hx, _⟩ := rh.lst q
        have e' := Option.some.inj e
        rw [← e']; exact .base (.lst hx)
      | dct ls =>
        simp only [q] at e
        obtain ⟨xs, hx, _⟩ := rh.dct q
        have e' := Option.some.inj e
        rw [← e']; exact .base (.dK hx)
      | dtt ls =>
        simp only [q] at e
        obtain ⟨xs, hx, _⟩ := rh.dtt q
        have e' := Option.some.inj e
        rw [← e']; exact .base (.dT hx)
      | _ => simp only [q] at e; cases e
  | _ => cases e
def tyNames : List LV → Option (List String)
  | [] => some []
  | .ty n :: r => (tyNames r).map fun ns => n :: ns
  | _ :: _ => none
def anyN (t : String) : List String → Option Bool
  | [] => some false
  | n :: r => match kitB t n with
    | some true => some true
    | some false => anyN t r
    | none => none
theorem tyNames_sim {K : PySem.W.Frag} {L : LHp} {H : Hp} : ∀ {cs : List LV} {xs : List V} {ns : List String}, RVs K L H cs xs → tyNames cs = some ns → Paired ClsV xs (ns.map Value.type)
  | [], xs, ns, r, e => by
    unfold RVs at r
    have e' : ([] : List String) = ns := Option.some.inj e
    rw [r, ← e']
    exact .nil
  | .ty n :: cs, xs, ns, r, e => by
    unfold RVs at r
    obtain ⟨y, q, rfl, h1, h2⟩ := r
    have ey : y = .ty n := h1
    obtain ⟨ms, e1, e2⟩ := Option.map_eq_some_iff.mp (show (tyNames cs).map (fun ns => n :: ns) = some ns from e)
    rw [ey, ← e2]
    exact .cons (.ty n) (tyNames_sim h2 e1)
  | .non :: _, _, _, _, e => by cases e
  | .bl _ :: _, _, _, _, e => by cases e
  | .int _ :: _, _, _, _, e => by cases e
  | .str _ :: _, _, _, _, e => by cases e
  | .ref _ :: _, _, _, _, e => by cases e
  | .tup _ :: _, _, _, _, e => by cases e
  | .lst _ :: _, _, _, _, e => by cases e
  | .wl _ :: _, _, _, _, e => by cases e
  | .wt _ :: _, _, _, _, e => by cases e
theorem anyN_sim {K : PySem.W.Frag} {t : String} : ∀ {ns : List String} {b : Bool}, anyN t ns = some b → PySem.W.kitAny K (.type t) (ns.map Value.type) = some b
  | [], b, e => by
    have e' : false = b := Option.some.inj e
    rw [← e']; rfl
  | n :: ns, b, e => by
    unfold anyN at e
    cases c : kitB t n with
    | none => simp only [c] at e; cases e
    | some k =>
      cases k with
      | true =>
        simp only [c] at e
        have e' : true = b := Option.some.inj e
        exact kitAny_cons (kit_ty c) (fun z => by cases z) (fun _ => e'.symm)
      | false =>
        simp only [c] at e
        exact kitAny_cons (kit_ty c) (fun _ => anyN_sim e) (fun z => by cases z)
def lIsi : LC := fun as L Q => match as with
  | [a, .ty n] => match lty L a with
    | some t => match kitB t n with
      | some b => Q (.bl b) L
      | none => False
    | none => False
  | [a, .tup cs] => match lty L a, tyNames cs with
    | some t, some ns => match anyN t ns with
      | some b => Q (.bl b) L
      | none => False
    | _, _ => False
  | _ => False
theorem c_isi : CallL X (.builtin "isinstance") lIsi := ⟨_, CallR.or call_isi call_isiT, fun L H as xs Ql Q rh ras s h => by
  unfold lIsi at h
  split at h
  · rename_i a n
    obtain ⟨x, y, rfl, ra, rb⟩ := ras.two
    cases e1 : lty L a with
    | none => simp only [e1] at h
    | some t =>
      simp only [e1] at h
      cases e2 : kitB t n with
      | none => simp only [e2] at h
      | some b =>
        simp only [e2] at h
        have ey : y = .ty n := rb
        rw [ey]
        exact .inl ⟨x, _, _, _, b, rfl, .ty n, lty_sim rh ra e1, kit_ty e2, s (.bl b) L _ H rh .refl rfl h⟩
  · rename_i a cs
    obtain ⟨x, y, rfl, ra, rb⟩ := ras.two
    cases e1 : lty L a with
    | none => simp only [e1] at h
    | some t =>
      cases e3 : tyNames cs with
      | none => simp only [e1, e3] at h
      | some ns =>
        simp only [e1, e3] at h
        cases e2 : anyN t ns with
        | none => simp only [e2] at h
        | some b =>
          simp only [e2] at h
          obtain ⟨p, xs, rfl, f, rx⟩ := rb.tup_inv
          exact .inr ⟨x, p, xs, _, _, b, rfl, f.2, tyNames_sim rx e3, lty_sim rh ra e1, anyN_sim e2, s (.bl b) L _ H rh .refl rfl h⟩
  · exact h.elim⟩

/-! ### methods of built-ins -/
abbrev LM := LV → List LV → LHp → QL → Prop
def SimM (K : PySem.W.Frag) (lr : LM) (r : V → List V → Hp → VK → Prop) : Prop := ∀ L H a as x xs Ql Q, RH K L H → RV K L H a x → RVs K L H as xs → SimV K L H Ql Q → lr a as L Ql → r x xs H Q
def MtL (X : Cx) (id : String) (lr : LM) : Prop := ∃ r, MtR X id r ∧ SimM X.K lr r
def tyL (T : String) (L : LHp) : LV → Bool
  | .str _ => T == "str"
  | .lst _ => T == "list"
  | .ref p => match L p with
    | some (.lst _) => T == "list"
    | some (.dct _) => T == "dict"
    | some (.dtt _) => T == "dict"
    | _ => false
  | _ => false
theorem tyL_sim {K : PySem.W.Frag} {L : LHp} {H : Hp} (rh : RH K L H) {a : LV} {x : V} (r : RV K L H a x) {T : String} (e : tyL T L a = true) : tyV K T x H := by
  cases a with
  | str z => rw [r.str_inv]; exact eq_of_beq e
  | lst ls =>
    obtain ⟨p, xs, rfl, f, _⟩ := r.lst_inv
    exact .inl ⟨eq_of_beq e, xs, f.sq⟩
  | ref p =>
    rw [r.ref_inv]
    unfold tyL at e
    cases q : L p with
    | none => simp only [q] at e; cases e
    | some lo =>
      cases lo with
      | lst ls =>
        simp only [q] at e
        obtain ⟨xs, hx, _⟩ := rh.lst q
        exact .inl ⟨eq_of_beq e, xs, SqL.of hx⟩
      | dct ls =>
        simp only [q] at e
        obtain ⟨xs, hx, _⟩ := rh.dct q
        exact .inr (.inr (.inl ⟨eq_of_beq e, .inl ⟨xs, hx⟩⟩))
      | dtt ls =>
        simp only [q] at e
        obtain ⟨xs, hx, _⟩ := rh.dtt q
        exact .inr (.inr (.inl ⟨eq_of_beq e, .inr ⟨xs, hx⟩⟩))
      | _ => simp only [q] at e; cases e
  | _ => cases e
def xMt (T : String) (lr : LM) (xo : LTE) (t : LTA) : LTE := fun σ L Q E => xo σ L (fun a L1 => tyL T L1 a = true ∧ t σ L1 (fun as L2 => lr a as L2 Q) E) E
variable {o : Expr} {xo : LTE} {name : Str} {apos cpos : Pos} {T id : String} {lm : LM}
theorem up_mt {K : PySem.W.Frag} {W : WX} {lr : LM} {r : V → List V → Hp → VK → Prop} {xo : LTE} {t : LTA} (sr : SimM K lr r) {σ : St} {H : Hp} {Q : VK} (h : upE K W (xMt T lr xo t) σ H Q) : tBM K T r (upE K W xo) (upA K W t) σ H Q := by
  obtain ⟨σl, L, Ql, El, rh, rs, s, sx, h⟩ := h
  refine ⟨σl, L, _, El, rh, rs, fun a L1 x H1 r1 y1 ra h1 => ?_, sx, h⟩
  refine ⟨tyL_sim r1 ra h1.1, σl, L1, _, El, r1, rs.ext y1, fun as L2 xs H2 r2 y2 ras h2 => ?_, sx.ext y1, h1.2⟩
  exact sr L2 H2 a as x xs Ql Q r2 (RV.ext y2 a x ra) ras (s.ext (y1.trans y2)) h2
theorem le_mt (hm : MtL X id lm) (pa : PlainAttrs T) (slot : Slot T name id) (hty : typeOf (.builtin id) = pure (.type "method_descriptor")) (ho : LE X o xo) (ha : LA X (e :: es) t)
    (hbase : attributeBase o name X.env (eval o X.env) = eval o X.env := by rfl)
    (hfew : ((backTo cpos (starEach (e :: es) X.env)).all (fun x => !x.1) && (backToKw cpos (keywordEach [] X.env)).all (fun x => x.1.isSome)
      && decide ((e :: es).length + ([] : List Keyword).length + (if ([] : List Keyword).isEmpty then 0 else 1) < 30)) = true := by rfl)
    (hline : (apos.endLine == cpos.line) = true := by rfl) (hs : starEach (e :: es) X.env = (false, eval e X.env) :: starEach es X.env := by rfl) (hplain : (backTo cpos (starEach es X.env)).any (·.1) = false := by rfl) :
    LE X (.Call (.Attribute o name apos) (e :: es) [] cpos) (xMt T lm xo t) := fun W tk => by
  obtain ⟨r, hr, sr⟩ := hm
  exact pe_weak (pe_bm pa slot hty hr (ho W tk) (ha W tk) hbase hfew hline hs hplain) fun σ H Q h => up_mt sr h
theorem le_mt0 (hm : MtL X id lm) (pa : PlainAttrs T) (slot : Slot T name id) (hty : typeOf (.builtin id) = pure (.type "method_descriptor")) (ho : LE X o xo)
    (hbase : attributeBase o name X.env (eval o X.env) = eval o X.env := by rfl) (hline : (apos.endLine == cpos.line) = true := by rfl) :
    LE X (.Call (.Attribute o name apos) [] [] cpos) (xMt T lm xo xNil) := fun W tk => by
  obtain ⟨r, hr, sr⟩ := hm
  refine pe_weak (pe_bm0 pa slot hty hr (ho W tk) hbase hline) fun σ H Q h => ?_
  obtain ⟨σl, L, Ql, El, rh, rs, s, sx, h⟩ := h
  refine ⟨σl, L, _, El, rh, rs, fun a L1 x H1 r1 y1 ra h1 => ?_, sx, h⟩
  exact ⟨tyL_sim r1 ra h1.1, sr L1 H1 a [] x [] Ql Q r1 ra .nil (s.ext y1) h1.2⟩
/-! append, extend, pop(i), clear -/
def lAppend : LM := fun a as L Q => match a, as with
  | .ref p, [y] => match L p with
    | some (.lst ls) => ls.length < sizeLine ∧ Q .non (lup L p (.lst (ls ++ [y])))
    | _ => False
  | _, _ => False
theorem some_ne {α : Type} {o : Option α} {x : α} (e : o = some x) : o ≠ none := by rw [e]; exact fun z => nomatch z
theorem m_append : MtL X "list.append" lAppend := ⟨_, mt_append, fun L H a as x xs Ql Q rh ra ras s h => by
  unfold lAppend at h
  split at h
  · rename_i p y
    obtain ⟨v, rfl, rv⟩ := ras.one
    split at h
    · rename_i ls q
      obtain ⟨ys, hy, ry⟩ := rh.lst q
      rw [ra.ref_inv]
      refine ⟨p, ys, v, rfl, rfl, hy, by rw [ry.length]; exact h.1, ?_⟩
      exact s .non _ _ _ (rh.upd (lo := .lst (ls ++ [y])) (some_ne q) ⟨_, rfl, ry.snoc rv⟩) (Ext.upd (some_ne q)) rfl h.2
    · exact h.elim
  · exact h.elim⟩
def lExtend : LM := fun a as L Q => match a, as with
  | .ref p, [b] => match L p, lstOf L b with
    | some (.lst ls), some ms => ls.length + ms.length ≤ sizeLine ∧ Q .non (lup L p (.lst (ls ++ ms)))
    | _, _ => False
  | _, _ => False
theorem m_extend : MtL X "list.extend" lExtend := ⟨_, mt_extend, fun L H a as x xs Ql Q rh ra ras s h => by
  unfold lExtend at h
  split at h
  · rename_i p b
    obtain ⟨v, rfl, rv⟩ := ras.one
    split at h
    · rename_i ls ms q q2
      obtain ⟨ys, hy, ry⟩ := rh.lst q
      obtain ⟨b', zs, rfl, hz, rz⟩ := lstOf_sim rh rv q2
      rw [ra.ref_inv]
      refine ⟨p, b', ys, zs, rfl, rfl, hy, hz, by rw [ry.length, rz.length]; exact h.1, ?_⟩
      exact s .non _ _ _ (rh.upd (lo := .lst (ls ++ ms)) (some_ne q) ⟨_, rfl, ry.append rz⟩) (Ext.upd (some_ne q)) rfl h.2
    · exact h.elim
  · exact h.elim⟩
def lPop0 : LM := fun a as L Q => match a, as with
  | .ref p, [.int 0] => match L p with
    | some (.lst (y :: ls)) => Q y (lup L p (.lst ls))
    | _ => False
  | _, _ => False
theorem m_pop0 : MtL X "list.pop" lPop0 := ⟨_, mt_popAt, fun L H a as x xs Ql Q rh ra ras s h => by
  unfold lPop0 at h
  split at h
  · rename_i p
    obtain ⟨v, rfl, rv⟩ := ras.one
    split at h
    · rename_i y ls q
      obtain ⟨ys, hy, ry⟩ := rh.lst q
      obtain ⟨w, hw, rw'⟩ := ry.get (i := 0) (l := y) rfl
      rw [ra.ref_inv, rv.int_inv]
      refine ⟨p, ys, 0, 0, w, rfl, rfl, hy, by decide, by decide, ?_, hw, ?_⟩
      · have hl : ys.length = ls.length + 1 := ry.length
        have e0 : ixN ys.length 0 = some 0 := by
          unfold ixN
          rw [if_pos (by decide), if_pos (by rw [hl]; omega)]
          rfl
        exact (ixN_seq e0).1
      · have re := RVs.eraseIdx (K := X.K) (L := L) (H := H) 0 ry
        exact s y _ _ _ (rh.upd (lo := .lst ls) (some_ne q) ⟨_, rfl, re⟩) (Ext.upd (some_ne q)) (RV.ext (Ext.upd (some_ne q)) _ _ rw') h
    · exact h.elim
  · exact h.elim⟩
def lClear : LM := fun a as L Q => match a, as with
  | .ref p, [] => match L p with
    | some (.lst _) => Q .non (lup L p (.lst []))
    | _ => False
  | _, _ => False
theorem m_clear : MtL X "list.clear" lClear := ⟨_, mt_clear, fun L H a as x xs Ql Q rh ra ras s h => by
  unfold lClear at h
  split at h
  · rename_i p
    have e : xs = [] := by
      unfold RVs at ras
      exact ras
    subst e
    split at h
    · rename_i ls q
      obtain ⟨ys, hy, ry⟩ := rh.lst q
      rw [ra.ref_inv]
      refine ⟨p, ys, rfl, rfl, hy, ?_⟩
      exact s .non _ _ _ (rh.upd (lo := .lst []) (some_ne q) ⟨_, rfl, .nil⟩) (Ext.upd (some_ne q)) rfl h
    · exact h.elim
  · exact h.elim⟩
/-! texts -/
def strsOf : List LV → Option (List Str)
  | [] => some []
  | .str x :: r => (strsOf r).map fun ns => x :: ns
  | _ :: _ => none
theorem strsOf_sim {K : PySem.W.Frag} {L : LHp} {H : Hp} : ∀ {ls : List LV} {xs : List V} {ss : List Str}, RVs K L H ls xs → strsOf ls = some ss → xs = ss.map V.str
  | [], xs, ss, r, e => by
    unfold RVs at r
    have e' : ([] : List Str) = ss := Option.some.inj e
    rw [r, ← e']; rfl
  | .str x :: ls, xs, ss, r, e => by
    unfold RVs at r
    obtain ⟨y, q, rfl, h1, h2⟩ := r
    obtain ⟨ms, e1, e2⟩ := Option.map_eq_some_iff.mp (show (strsOf ls).map (fun ns => x :: ns) = some ss from e)
    rw [h1.str_inv, ← e2, strsOf_sim h2 e1]; rfl
  | .non :: _, _, _, _, e => by cases e
  | .bl _ :: _, _, _, _, e => by cases e
  | .int _ :: _, _, _, _, e => by cases e
  | .ty _ :: _, _, _, _, e => by cases e
  | .ref _ :: _, _, _, _, e => by cases e
  | .tup _ :: _, _, _, _, e => by cases e
  | .lst _ :: _, _, _, _, e => by cases e
  | .wl _ :: _, _, _, _, e => by cases e
  | .wt _ :: _, _, _, _, e => by cases e
theorem strsOf_map : ∀ ss : List Str, strsOf (ss.map LV.str) = some ss
  | [] => rfl
  | s :: ss => by
    show (strsOf (ss.map LV.str)).map _ = _
    rw [strsOf_map ss]; rfl
def lJoin : LM := fun a as L Q => match a, as with
  | .str z, [b] => match lstOf L b with
    | some ls => match strsOf ls with
      | some ys => (ys.map (·.length)).sum + ys.length * z.length ≤ 16777216 ∧ Q (.str (Txt.join z ys)) L
      | none => False
    | none => False
  | _, _ => False
theorem m_join : MtL X "str.join" lJoin := ⟨_, mt_join, fun L H a as x xs Ql Q rh ra ras s h => by
  unfold lJoin at h
  split at h
  · obtain ⟨v, rfl, rv⟩ := ras.one
    split at h
    · rename_i ls q
      split at h
      · rename_i ys q2
        obtain ⟨p, zs, rfl, hz, rz⟩ := lstOf_sim rh rv q
        rw [strsOf_sim rz q2] at hz
        rw [ra.str_inv]
        exact ⟨_, p, ys, rfl, rfl, .inl (SqL.of hz), h.1, s (.str _) L _ H rh .refl rfl h.2⟩
      · exact h.elim
    · exact h.elim
  · exact h.elim⟩
def lSplit (fr : Bool) : LM := fun a as L Q => match a, as with
  | .str z, [.str b] => (b.length == 0) = false ∧ z.length + 2 ≤ sizeLine ∧ newL fr ((Txt.split z b).map LV.str) L Q
  | _, _ => False
theorem m_split {fr : Bool} : MtL X "str.split" (lSplit fr) := ⟨_, mt_split, fun L H a as x xs Ql Q rh ra ras s h => by
  unfold lSplit at h
  split at h
  · obtain ⟨v, rfl, rv⟩ := ras.one
    rw [ra.str_inv, rv.str_inv]
    exact ⟨_, _, rfl, rfl, h.1, h.2.1, newL_sim rh s .of_strs h.2.2⟩
  · exact h.elim⟩
end
end LK
set_option Elab.async false
set_option linter.all false
set_option maxRecDepth 100000
set_option maxHeartbeats 2000000
/-! Rules: fields, calls of the text's own defs, methods, classes. -/
namespace LK
open PySem PySem.Spec PyProof.Rows L2

theorem pe_orE {X : Cx} {e : Expr} {t t' : TE} (h : PE X e t) (h' : PE X e t') : PE X e (fun σ H Q => t σ H Q ∨ t' σ H Q) :=
  ⟨fun pins s σ H Q I q => q.elim (h.run pins s σ H Q I) (h'.run pins s σ H Q I)⟩
def xOrE (x y : LTE) : LTE := fun σ L Q E => x σ L Q E ∨ y σ L Q E
def xNever : LTE := fun _ _ _ _ => False
section
variable {X : Cx} {e o : Expr} {es : List Expr} {x y xo : LTE} {t : LTA} {pos p apos : Pos}
theorem le_orE (h : LE X e x) (h' : LE X e y) : LE X e (xOrE x y) := fun W tk => by
  refine pe_weak (pe_orE (h W tk) (h' W tk)) fun σ H Q q => ?_
  obtain ⟨σl, L, Ql, El, rh, rs, s, sx, q⟩ := q
  rcases q with q | q
  · exact .inl ⟨σl, L, Ql, El, rh, rs, s, sx, q⟩
  · exact .inr ⟨σl, L, Ql, El, rh, rs, s, sx, q⟩
theorem le_never : LE X e xNever := fun W tk => ⟨fun pins s σ H Q I q => by
  obtain ⟨σl, L, Ql, El, rh, rs, s, sx, q⟩ := q
  exact q.elim⟩
/-! ### fields -/
def xFld (C : Addr) (f : Str) (xa : LTE) : LTE := fun σ L Q E => xa σ L (fun a L1 => match a with
  | .ref p => ∃ fs l, L1 p = some (.ins C fs) ∧ fs.lookup f = some l ∧ Q l L1
  | _ => False) E
theorem le_fld {C : Addr} {f : Str} (c : Cls X.K C) (n : NoAttr X.K C f) (h : LE X e x) (hb : attributeBase e f X.env (eval e X.env) = eval e X.env := by rfl) : LE X (.Attribute e f pos) (xFld C f x) := fun W tk => by
  refine pe_weak (pe_fld (h W tk) hb) fun σ H Q h => ?_
  obtain ⟨σl, L, Ql, El, rh, rs, s, sx, h⟩ := h
  refine ⟨σl, L, _, El, rh, rs, fun a L1 v H1 r1 y1 ra h1 => ?_, sx, h⟩
  cases a with
  | ref a =>
    obtain ⟨fs, l, e1, e2, q⟩ := h1
    obtain ⟨dx, ys, hy, ry⟩ := r1.ins e1
    obtain ⟨v', e3, rv⟩ := ry.lookup e2
    exact ⟨a, C, dx, ys, v', ra.ref_inv, hy, c, n, e3, s l L1 _ H1 r1 y1 rv q⟩
  | _ => exact h1.elim
theorem RKV.pf {K : PySem.W.Frag} {L : LHp} {H : Hp} (f : Str) {l : LV} {v : V} (q : RV K L H l v) : ∀ {ls : List (Str × LV)} {ys : List (Str × V)}, RKV K L H ls ys → RKV K L H (pf f l ls) (putF f v ys)
  | [], ys, h => by
    have e1 : ys = [] := h
    rw [e1]
    exact ⟨v, [], rfl, q, rfl⟩
  | (k0, l0) :: ls, ys, h => by
    obtain ⟨w, r, rfl, h1, h2⟩ := h
    unfold LK.pf putF
    by_cases c : k0 = f
    · subst c
      simp only [if_pos]
      exact ⟨v, r, rfl, q, h2⟩
    · simp only [if_neg c]
      exact ⟨w, _, rfl, h1, RKV.pf f q h2⟩
/-- o.f = e -/
def sFld (C : Addr) (f : Str) (xo xv : LTE) : LTS := fun D σ L => xv σ L (fun v L1 => xo σ L1 (fun a L2 => match a with
  | .ref p => ∃ fs, L2 p = some (.ins C fs) ∧ fs.length < 1000 ∧ D.nx σ (lup L2 p (.ins C (pf f v fs)))
  | _ => False) D.ex) D.ex
theorem ls_fld {C : Addr} {f : Str} {value : Expr} {xv : LTE} {pos' : Pos} (c : Cls X.K C) (n : NoAttr X.K C f) (ho : LE X o xo) (hv : LE X value xv) (hs : swapsWith value (some (.Attribute o f pos')) pos.line X.env = pure false := by rfl) :
    LS X (.Assign [.Attribute o f pos'] value pos) (sFld C f xo xv) := fun W tk => by
  refine ps_weak (ps_fld (ho W tk) (hv W tk) hs) fun D σ H h => ?_
  obtain ⟨σl, L, Dl, rh, rs, sd, h⟩ := h
  refine ⟨σl, L, _, Dl.ex, rh, rs, fun v L1 u H1 r1 y1 rv h1 => ?_, sd.ex, h⟩
  refine ⟨σl, L1, _, Dl.ex, r1, rs.ext y1, fun a L2 w H2 r2 y2 ra h2 => ?_, sd.ex.ext y1, h1⟩
  cases a with
  | ref a =>
    obtain ⟨fs, e1, hl, q⟩ := h2
    obtain ⟨dx, ys, hy, ry⟩ := r2.ins e1
    refine ⟨a, C, dx, ys, ra.ref_inv, hy, c, n, by rw [ry.length]; exact hl, ?_⟩
    have y12 := y1.trans y2
    have yu : Ext L2 H2 (lup L2 a (.ins C (pf f v fs))) (upd H2 a (.ins C dx (putF f u ys))) := Ext.upd (some_ne e1)
    exact sd.nx _ _ _ _ (r2.upd (lo := .ins C (pf f v fs)) (some_ne e1) ⟨dx, _, rfl, RKV.pf f (RV.ext y2 v u rv) ry⟩) (y12.trans yu) (rs.ext (y12.trans yu)) q
  | _ => exact h2.elim

/-! ### the text's own defs -/
abbrev LCall := List LV → LHp → QL → XL → Prop
def spL (K : PySem.W.Frag) (n : Nat) (c : LCall) : Sp := fun vs H Q E => vs.length = n ∧ ∃ ls L Ql El, RH K L H ∧ RVs K L H ls vs ∧ SimV K L H Ql Q ∧ SimX K L H El (fun cls d _ H' => E cls d H') ∧ c ls L Ql El
structure FnL (P : Program) (w : World) (K : PySem.W.Frag) (mg : Str → Option Value) (base : Heap) (k : Nat) (f : Addr) (n : Nat) (c : LCall) : Prop where
  ex : ∃ fd ps, ps.length = n ∧ FnOk P w K mg base (L2N.CX P w) k f fd ps (spL K n c) ∧ Binds K fd ps []
  kp : PySem.W.keepIn K (.ref f) = true
/-- a def by its name -/
def GFn (P : Program) (w : World) (K : PySem.W.Frag) (mg : Str → Option Value) (base : Heap) (k : Nat) (x : Str) (n : Nat) (c : LCall) : Prop := ∃ f, mg x = some (.ref f) ∧ FnL P w K mg base k f n c
/-- a method of the class at C -/
def MFn (P : Program) (w : World) (K : PySem.W.Frag) (mg : Str → Option Value) (base : Heap) (k : Nat) (C : Addr) (m : Str) (n : Nat) (c : LCall) : Prop := ∃ f, Cls K C ∧ Meth K C m f ∧ FnL P w K mg base k f (n + 1) c
/-- a class that is called -/
def KFn (P : Program) (w : World) (K : PySem.W.Frag) (mg : Str → Option Value) (base : Heap) (k : Nat) (x : Str) (C : Addr) (n : Nat) (c : LCall) : Prop := ∃ f, mg x = some (.ref C) ∧ Mk K C f ∧ FnL P w K mg base k f (n + 1) c
def xCall (n : Nat) (c : LCall) (t : LTA) : LTE := fun σ L Q E => t σ L (fun as L1 => as.length = n ∧ c as L1 Q E) E
variable {k n : Nat} {c : LCall} {x' m : Str} {C : Addr}
theorem passW {W : WX} (tk : L2N.Takes X W) : Passes (L2N.CX X.prog X.w) X (fun cls d H => ∀ σ, W cls d σ H) := L2N.passes_call tk fun _ _ _ _ h => h _
theorem sp_up {W : WX} {σ : St} {L : LHp} {H : Hp} {Ql : QL} {El : XL} {Q : VK} {as : List LV} {vs : List V} (rh : RH X.K L H) (ra : RVs X.K L H as vs) (s : SimV X.K L H Ql Q) (sx : SimX X.K L H El W) (hl : as.length = n) (h : c as L Ql El) :
    spL X.K n c vs H Q (fun cls d H => ∀ σ, W cls d σ H) := ⟨by rw [ra.length]; exact hl, as, L, Ql, El, rh, ra, s, fun e L' cls d _ H' r1 y1 rx q σ' => sx e L' cls d σ' H' r1 y1 rx q, h⟩
theorem le_call (G : GFn X.prog X.w X.K X.mg X.base k x' n c) (hr : Room k X.A) (ha : LA X (e :: es) t) (hg : Gl X x' := by rfl) (hdb : (x' == ("__debug__" : Str)) = false := by decide)
    (he : starEach (e :: es) X.env = (false, eval e X.env) :: starEach es X.env := by rfl) (hpl : (backTo pos (starEach es X.env)).any (·.1) = false := by rfl) : LE X (.Call (.Name x' p) (e :: es) [] pos) (xCall n c t) := fun W tk => by
  obtain ⟨f, hm, ⟨⟨fd, ps, hn, F, hb⟩, kp⟩⟩ := G
  refine pe_weak (pe_call F hr hg hm kp hb .nil (passW tk) (ha W tk) hdb he hpl) fun σ H Q h => ?_
  obtain ⟨σl, L, Ql, El, rh, rs, s, sx, h⟩ := h
  refine ⟨σl, L, _, El, rh, rs, fun as L1 vs H1 r1 y1 ra h1 => ?_, sx, h⟩
  show spL _ _ _ (vs ++ []) _ _ _
  rw [List.append_nil]
  exact sp_up (σ := σ) r1 ra (s.ext y1) (sx.ext y1) h1.1 h1.2
theorem le_call0 (G : GFn X.prog X.w X.K X.mg X.base k x' 0 c) (hr : Room k X.A) (hg : Gl X x' := by rfl) (hdb : (x' == ("__debug__" : Str)) = false := by decide) : LE X (.Call (.Name x' p) [] [] pos) (xCall 0 c xNil) := fun W tk => by
  obtain ⟨f, hm, ⟨⟨fd, ps, hn, F, hb⟩, kp⟩⟩ := G
  refine pe_weak (pe_call0 F hr hg hm kp hb .nil (passW tk) hdb) fun σ H Q h => ?_
  obtain ⟨σl, L, Ql, El, rh, rs, s, sx, h⟩ := h
  exact sp_up (σ := σ) rh .nil s sx h.1 h.2
/-- o.m(..) -/
def xMeth (C : Addr) (m : Str) (n : Nat) (c : LCall) (xo : LTE) (t : LTA) : LTE := fun σ L Q E => xo σ L (fun a L1 => match a with
  | .ref p => ∃ fs, L1 p = some (.ins C fs) ∧ fs.lookup m = none ∧ t σ L1 (fun as L2 => as.length = n ∧ c (.ref p :: as) L2 Q E) E
  | _ => False) E
theorem le_meth {pl : Sem Bool} (G : MFn X.prog X.w X.K X.mg X.base k C m n c) (hr : Room k X.A) (ho : LE X o xo) (ha : LA X (e :: es) t)
    (hst : starEach (e :: es) X.env = (false, eval e X.env) :: starEach es X.env := by rfl) (hpl : (backTo pos (starEach es X.env)).any (·.1) = false := by rfl)
    (ht : eval (.Call (.Attribute o m apos) (e :: es) [] pos) X.env = (do
      let ov ← eval o X.env
      standAt apos.atName
      let (f, first) ← holding [ov] (getMethod ov m pl)
      callWith pos f first (backTo pos (starEach (e :: es) X.env)) (backToKw pos (keywordEach [] X.env))) := by rfl) :
    LE X (.Call (.Attribute o m apos) (e :: es) [] pos) (xMeth C m n c xo t) := fun W tk => by
  obtain ⟨f, hc, hm, ⟨⟨fd, ps, hn, F, hb⟩, kp⟩⟩ := G
  refine pe_weak (pe_meth (pl := pl) (ho W tk) hc hm F hr hb .nil (passW tk) (ha W tk) hst hpl ht) fun σ H Q h => ?_
  obtain ⟨σl, L, Ql, El, rh, rs, s, sx, h⟩ := h
  refine ⟨σl, L, _, El, rh, rs, fun a L1 v H1 r1 y1 ra h1 => ?_, sx, h⟩
  cases a with
  | ref a =>
    obtain ⟨fs, e1, e2, q⟩ := h1
    obtain ⟨dx, ys, hy, ry⟩ := r1.ins e1
    refine ⟨a, dx, ys, ra.ref_inv, hy, ry.lookup_none e2, σl, L1, _, El, r1, rs.ext y1, fun as L2 vs H2 r2 y2 ras h2 => ?_, sx.ext y1, q⟩
    rw [ra.ref_inv]
    show spL _ _ _ (.ref a :: (vs ++ [])) _ _ _
    rw [List.append_nil]
    exact sp_up (σ := σ) (as := .ref a :: as) r2 (.cons rfl ras) (s.ext (y1.trans y2)) (sx.ext (y1.trans y2)) (by rw [List.length_cons, h2.1]) h2.2
  | _ => exact h1.elim
theorem le_meth0 {pl : Sem Bool} (G : MFn X.prog X.w X.K X.mg X.base k C m 0 c) (hr : Room k X.A) (ho : LE X o xo)
    (ht : eval (.Call (.Attribute o m apos) [] [] pos) X.env = (do
      let ov ← eval o X.env
      standAt apos.atName
      let (f, first) ← holding [ov] (getMethod ov m pl)
      callWith pos f first (backTo pos (starEach [] X.env)) (backToKw pos (keywordEach [] X.env))) := by rfl) :
    LE X (.Call (.Attribute o m apos) [] [] pos) (xMeth C m 0 c xo xNil) := fun W tk => by
  obtain ⟨f, hc, hm, ⟨⟨fd, ps, hn, F, hb⟩, kp⟩⟩ := G
  refine pe_weak (pe_meth0 (pl := pl) (ho W tk) hc hm F hr hb .nil (passW tk) ht) fun σ H Q h => ?_
  obtain ⟨σl, L, Ql, El, rh, rs, s, sx, h⟩ := h
  refine ⟨σl, L, _, El, rh, rs, fun a L1 v H1 r1 y1 ra h1 => ?_, sx, h⟩
  cases a with
  | ref a =>
    obtain ⟨fs, e1, e2, q⟩ := h1
    obtain ⟨dx, ys, hy, ry⟩ := r1.ins e1
    refine ⟨a, dx, ys, ra.ref_inv, hy, ry.lookup_none e2, ?_⟩
    rw [ra.ref_inv]
    exact sp_up (σ := σ) (as := [.ref a]) r1 (.cons rfl .nil) (s.ext y1) (sx.ext y1) rfl q.2
  | _ => exact h1.elim
/-- C(..) -/
def xMake (C : Addr) (n : Nat) (c : LCall) (t : LTA) : LTE := fun σ L Q E => t σ L (fun as L1 => as.length = n ∧ ∀ p, L1 p = none → c (.ref p :: as) (lup L1 p (.ins C [])) (fun v L2 => v = .non ∧ Q (.ref p) L2) E) E
theorem make_up {W : WX} {σ : St} {L : LHp} {H : Hp} {Ql : QL} {El : XL} {Q : VK} {as : List LV} {vs : List V} (rh : RH X.K L H) (ra : RVs X.K L H as vs) (s : SimV X.K L H Ql Q) (sx : SimX X.K L H El W) (hl : as.length = n)
    (h : ∀ p, L p = none → c (.ref p :: as) (lup L p (.ins C [])) (fun v L2 => v = .non ∧ Ql (.ref p) L2) El) : ∀ y dx, H y = none → H dx = none → dx ≠ y →
      spL X.K (n + 1) c (.ref y :: (vs ++ [])) (upd (upd H dx (.own y)) y (.ins C dx [])) (fun v H2 => v = .non ∧ Q (.ref y) H2) (fun cls d H => ∀ σ, W cls d σ H) := fun y dx hy hdx hne => by
  have r1 : RH X.K L (upd H dx (.own y)) := rh.frz hdx
  have y1 : Ext L H L (upd H dx (.own y)) := Ext.frz rh hdx
  have hy1 : upd H dx (.own y) y = none := by rw [upd_ne (Ne.symm hne)]; exact hy
  have r2 : RH X.K (lup L y (.ins C [])) (upd (upd H dx (.own y)) y (.ins C dx [])) := r1.new (lo := .ins C []) hy1 ⟨dx, [], rfl, rfl⟩
  have y2 : Ext L H (lup L y (.ins C [])) (upd (upd H dx (.own y)) y (.ins C dx [])) := y1.trans (Ext.new r1 hy1)
  rw [List.append_nil]
  refine sp_up (X := X) (W := W) (σ := σ) (as := .ref y :: as) (Ql := fun v L2 => v = .non ∧ Ql (.ref y) L2) r2 (.cons rfl (ra.ext y2)) (fun l L' v H' r3 y3 rv q => ?_) (sx.ext y2) (by rw [List.length_cons, hl]) (h y (rh.fresh hy))
  obtain ⟨e1, q⟩ := q
  subst e1
  exact ⟨rv.non_inv, s (.ref y) L' _ H' r3 (y2.trans y3) rfl q⟩
theorem le_make (G : KFn X.prog X.w X.K X.mg X.base k x' C n c) (hr : Room (k + 1) X.A) (ha : LA X (e :: es) t) (hg : Gl X x' := by rfl) (hdb : (x' == ("__debug__" : Str)) = false := by decide)
    (he : starEach (e :: es) X.env = (false, eval e X.env) :: starEach es X.env := by rfl) (hpl : (backTo pos (starEach es X.env)).any (·.1) = false := by rfl) : LE X (.Call (.Name x' p) (e :: es) [] pos) (xMake C n c t) := fun W tk => by
  obtain ⟨f, hm, M, ⟨⟨fd, ps, hn, F, hb⟩, kp⟩⟩ := G
  refine pe_weak (pe_make M F hr hg hm hb .nil (passW tk) (ha W tk) hdb he hpl) fun σ H Q h => ?_
  obtain ⟨σl, L, Ql, El, rh, rs, s, sx, h⟩ := h
  refine ⟨σl, L, _, El, rh, rs, fun as L1 vs H1 r1 y1 ra h1 => ?_, sx, h⟩
  exact make_up (σ := σ) r1 ra (s.ext y1) (sx.ext y1) h1.1 h1.2
theorem le_make0 (G : KFn X.prog X.w X.K X.mg X.base k x' C 0 c) (hr : Room (k + 1) X.A) (hg : Gl X x' := by rfl) (hdb : (x' == ("__debug__" : Str)) = false := by decide) : LE X (.Call (.Name x' p) [] [] pos) (xMake C 0 c xNil) := fun W tk => by
  obtain ⟨f, hm, M, ⟨⟨fd, ps, hn, F, hb⟩, kp⟩⟩ := G
  refine pe_weak (pe_make0 M F hr hg hm hb .nil (passW tk) hdb) fun σ H Q h => ?_
  obtain ⟨σl, L, Ql, El, rh, rs, s, sx, h⟩ := h
  exact make_up (σ := σ) rh .nil s sx h.1 h.2
end
end LK
set_option Elab.async false
set_option linter.all false
set_option maxRecDepth 100000
set_option maxHeartbeats 2000000
/-! Rules: targets, statements, loops, comprehensions. -/
namespace LK
open PySem PySem.Spec PyProof.Rows L2

/-! ### targets -/
abbrev LTG := LV → LSt → LHp → (LSt → LHp → Prop) → XL → Prop
def upG (K : PySem.W.Frag) (W : WX) (g : LTG) : TG := fun v σ H Q => ∃ l σl L Ql El, RH K L H ∧ RS K L H σl σ ∧ RV K L H l v ∧ SimN K L H Ql Q ∧ SimX K L H El W ∧ g l σl L Ql El
def LG (X : Cx) (tg : Expr) (g : LTG) : Prop := ∀ W, L2N.Takes X W → PG X tg (upG X.K W g)
theorem pg_weak {X : Cx} {e : Expr} {t t' : TG} (h : PG X e t) (w : ∀ v σ H Q, t' v σ H Q → t v σ H Q) : PG X e t' := ⟨fun pins s σ H v u Q I r q => h.run pins s σ H v u Q I r (w _ _ _ _ q)⟩
def gNm (i : Nat) : LTG := fun v σ L Q _ => Q (σ.set i (some v)) L
def setAll : LSt → List Nat → List LV → LSt
  | σ, i :: is, l :: ls => setAll (σ.set i (some l)) is ls
  | σ, _, _ => σ
def gTp (is : List Nat) : LTG := fun v σ L Q _ => match tupOf v with
  | some ls => ls.length = is.length ∧ Q (setAll σ is ls) L
  | none => False
def gNames : List Nat → TGs
  | [] => gNil
  | i :: is => gCons (gName i) (gNames is)
def LGs (X : Cx) (ts : List Expr) (is : List Nat) : Prop := PGs X ts (gNames is) ∧ is.length = ts.length
section
variable {X : Cx} {e o : Expr} {es : List Expr} {x y xo : LTE} {t : LTA} {pos p apos pos' : Pos}
theorem lg_name (i : Nat) {n : Str} (hN : X.N.Nodup) (hi : X.N[i]? = some n := by rfl) (hx : Loc X.env.scope n := by first | exact Or.inl rfl | exact Or.inr rfl) (hf : X.fn n = true ∨ X.env.scope.names.lookup n = some .local := by first | exact .inl rfl | exact .inr rfl | assumption) :
    LG X (.Name n pos) (gNm i) := fun W _ => by
  refine pg_weak (pg_name hN hi hx hf) fun v σ H Q h => ?_
  obtain ⟨l, σl, L, Ql, El, rh, rs, rv, s, sx, h⟩ := h
  exact s _ L _ H rh .refl (rs.set i rv) h
theorem lgs_nil : LGs X [] [] := ⟨pgs_nil, rfl⟩
theorem lgs_cons (i : Nat) {n : Str} {is : List Nat} (hN : X.N.Nodup) (r : LGs X es is) (hi : X.N[i]? = some n := by rfl) (hx : Loc X.env.scope n := by first | exact Or.inl rfl | exact Or.inr rfl) (hf : X.fn n = true ∨ X.env.scope.names.lookup n = some .local := by first | exact .inl rfl | exact .inr rfl | assumption)
    (hs : (assignEach (.Name n pos :: es) X.env).map (·.2) = assign (.Name n pos) X.env :: (assignEach es X.env).map (·.2) := by rfl) : LGs X (.Name n pos :: es) (i :: is) :=
  ⟨pgs_cons (pg_name hN hi hx hf) r.1 hs, by rw [List.length_cons, List.length_cons, r.2]⟩
theorem names_up {K : PySem.W.Frag} {L : LHp} {H : Hp} : ∀ {is : List Nat} {ls : List LV} {xs : List V} {σl : LSt} {σ : St} {Ql : LSt → LHp → Prop} {Q : St → Hp → Prop}, RH K L H → RS K L H σl σ → RVs K L H ls xs → ls.length = is.length → SimN K L H Ql Q → Ql (setAll σl is ls) L → gNames is xs σ H Q
  | [], ls, xs, σl, σ, Ql, Q, rh, rs, r, hl, s, h => by
    have e : ls = [] := List.length_eq_zero_iff.mp hl
    subst e
    unfold RVs at r
    exact ⟨r, s _ L _ H rh .refl rs h⟩
  | i :: is, [], xs, σl, σ, Ql, Q, rh, rs, r, hl, s, h => by cases hl
  | i :: is, l :: ls, xs, σl, σ, Ql, Q, rh, rs, r, hl, s, h => by
    unfold RVs at r
    obtain ⟨v, q, e, h1, h2⟩ := r
    exact ⟨v, q, e, names_up rh (rs.set i h1) h2 (by simpa using hl) s h⟩
theorem lg_tup {k : Nat} {is : List Nat} (hc : X.calm = true) (h : LGs X es is) (hn : (assignEach es X.env).length = is.length := by rfl) (hst : (assignEach es X.env).findIdx? (·.1) = none := by rfl) : LG X (.Tuple es k pos) (gTp is) := fun W _ => by
  refine pg_weak (pg_tup hc h.1 hn hst) fun v σ H Q hh => ?_
  obtain ⟨l, σl, L, Ql, El, rh, rs, rv, s, sx, hh⟩ := hh
  unfold gTp at hh
  cases q : tupOf l with
  | none => simp only [q] at hh
  | some ls =>
    simp only [q] at hh
    obtain ⟨a, xs, rfl, hs, rx⟩ := tupOf_sim rv q
    exact ⟨a, xs, rfl, hs, by rw [rx.length]; exact hh.1, names_up rh rs rx hh.1 s hh.2⟩
/-! a[i] = v -/
def rSetD : TSet := fun o i v H Q => ∃ a H', o = .ref a ∧ DPut H a i v H' ∧ Q H'
theorem set_dict (hu : X.A.units + 64 < cLine) : PSet X rSetD := by
  intro pins s σ H o i v ov iv u Q I ro ri rv h
  obtain ⟨a, H', rfl, g, q⟩ := h
  obtain rfl : ov = Value.ref a := ro
  exact d_setItem (by omega) I g ri rv fun s4 I4 => ⟨H', I4, q⟩
theorem pset_or {t t' : TSet} (h : PSet X t) (h' : PSet X t') : PSet X (fun o i v H Q => t o i v H Q ∨ t' o i v H Q) := by
  intro pins s σ H o i v ov iv u Q I ro ri rv q
  rcases q with q | q
  · exact h pins s σ H o i v ov iv u Q I ro ri rv q
  · exact h' pins s σ H o i v ov iv u Q I ro ri rv q
def lSetI (o i v : LV) (L : LHp) (Q : LHp → Prop) : Prop := match o with
  | .ref p => match L p with
    | some (.lst ls) => match i with
      | .int j => match ixN ls.length j with
        | some n => Q (lup L p (.lst (ls.set n v)))
        | none => False
      | _ => False
    | some (.dct kvs) => match lKey i with
      | some k => kvs.length < sizeLine ∧ Q (lup L p (.dct (pl kvs k v)))
      | none => False
    | some (.dtt kvs) => match i with
      | .tup ks => match lKeys ks with
        | some k => kvs.length < sizeLine ∧ Q (lup L p (.dtt (pl kvs k v)))
        | none => False
      | _ => False
    | _ => False
  | _ => False
theorem setI_up {K : PySem.W.Frag} {L : LHp} {H : Hp} {o i v : LV} {ov iv vv : V} {Ql : LHp → Prop} {Q : Hp → Prop} (rh : RH K L H) (ro : RV K L H o ov) (ri : RV K L H i iv) (rv : RV K L H v vv) (s : ∀ L' H', RH K L' H' → Ext L H L' H' → Ql L' → Q H') (h : lSetI o i v L Ql) :
    rSetL ov iv vv H Q ∨ rSetD ov iv vv H Q := by
  unfold lSetI at h
  cases o with
  | ref p =>
    rw [ro.ref_inv]
    simp only at h
    cases q : L p with
    | none => simp only [q] at h
    | some lo =>
      cases lo with
      | lst ls =>
        simp only [q] at h
        cases i with
        | int j =>
          simp only at h
          cases q2 : ixN ls.length j with
          | none => simp only [q2] at h
          | some n =>
            simp only [q2] at h
            obtain ⟨xs, hx, rx⟩ := rh.lst q
            refine .inl ⟨p, xs, j, n, rfl, ri.int_inv, hx, by rw [rx.length]; exact q2, ?_⟩
            exact s _ _ (rh.upd (lo := .lst (ls.set n v)) (some_ne q) ⟨_, rfl, rx.set n rv⟩) (Ext.upd (some_ne q)) h
        | _ => exact h.elim
      | dct kvs =>
        simp only [q] at h
        cases q2 : lKey i with
        | none => simp only [q2] at h
        | some k =>
          simp only [q2] at h
          obtain ⟨xs, hx, rx⟩ := rh.dct q
          refine .inr ⟨p, _, rfl, .inl ⟨xs, k, hx, lKey_sim q2 ri, by rw [rx.length]; exact h.1, rfl⟩, ?_⟩
          exact s _ _ (rh.upd (lo := .dct (pl kvs k v)) (some_ne q) ⟨_, rfl, rx.put k rv⟩) (Ext.upd (some_ne q)) h.2
      | dtt kvs =>
        simp only [q] at h
        cases i with
        | tup ks =>
          simp only at h
          cases q2 : lKeys ks with
          | none => simp only [q2] at h
          | some k =>
            simp only [q2] at h
            obtain ⟨xs, hx, rx⟩ := rh.dtt q
            obtain ⟨t, ys, rfl, f, ry⟩ := ri.tup_inv
            refine .inr ⟨p, _, rfl, .inr ⟨xs, k, t, hx, rfl, by rw [f.2, lKeys_sim q2 ry], by rw [rx.length]; exact h.1, rfl⟩, ?_⟩
            exact s _ _ (rh.upd (lo := .dtt (pl kvs k v)) (some_ne q) ⟨_, rfl, rx.put k rv⟩) (Ext.upd (some_ne q)) h.2
        | _ => exact h.elim
      | _ => simp only [q] at h
  | _ => exact h.elim
def gSubL (xo xi : LTE) : LTG := fun v σ L Q E => xo σ L (fun o L1 => xi σ L1 (fun i L2 => lSetI o i v L2 (fun L3 => Q σ L3)) E) E
theorem lg_sub {i : Expr} {xi : LTE} (hu : X.A.units + 64 < cLine) (ho : LE X o xo) (hi : LE X i xi)
    (ha : ∀ v, assign (.Subscript o i pos) X.env v = (do
      let ov ← holding [v] (eval o X.env)
      let iv ← holding [v, ov] (eval i X.env)
      standAt pos
      holding [v, ov, iv] (setItem ov iv v)
      release [v, ov, iv] []) := by intro _; rfl) : LG X (.Subscript o i pos) (gSubL xo xi) := fun W tk => by
  refine pg_weak (pg_sub (ho W tk) (hi W tk) (pset_or set_list (set_dict hu)) ha) fun v σ H Q h => ?_
  obtain ⟨l, σl, L, Ql, El, rh, rs, rv, s, sx, h⟩ := h
  refine ⟨σl, L, _, El, rh, rs, fun o L1 ov H1 r1 y1 ro h1 => ?_, sx, h⟩
  refine ⟨σl, L1, _, El, r1, rs.ext y1, fun i L2 iv H2 r2 y2 ri h2 => ?_, sx.ext y1, h1⟩
  refine setI_up r2 (RV.ext y2 o ov ro) ri (RV.ext (y1.trans y2) l v rv) (fun L' H' r3 y3 q => ?_) h2
  exact s σl L' σ H' r3 ((y1.trans y2).trans y3) (rs.ext ((y1.trans y2).trans y3)) q
def sAsg (xe : LTE) (g : LTG) : LTS := fun D σ L => xe σ L (fun v L1 => g v σ L1 D.nx D.ex) D.ex
theorem ls_asg {tg : Expr} {g : LTG} (he : LE X e x) (hg : LG X tg g) (hs : swapsWithSole [tg] e pos.line X.env = pure false := by rfl) (hw : swappedStores [tg] e X.env = pure none := by rfl)
    (h1 : (assignEach [tg] X.env).map (·.2) = [assign tg X.env] := by rfl) : LS X (.Assign [tg] e pos) (sAsg x g) := fun W tk => by
  refine ps_weak (ps_asg (he W tk) (hg W tk) hs hw h1) fun D σ H h => ?_
  obtain ⟨σl, L, Dl, rh, rs, sd, h⟩ := h
  refine ⟨σl, L, _, Dl.ex, rh, rs, fun l L1 v H1 r1 y1 rv q => ?_, sd.ex, h⟩
  exact ⟨l, σl, L1, Dl.nx, Dl.ex, r1, rs.ext y1, rv, sd.nx.ext y1, sd.ex.ext y1, q⟩
theorem ls_set (i : Nat) {n : Str} (hN : X.N.Nodup) (he : LE X e x) (hi : X.N[i]? = some n := by rfl) (hx : Loc X.env.scope n := by first | exact Or.inl rfl | exact Or.inr rfl) (hs : swapsWith e (some (.Name n pos')) pos.line X.env = pure false := by rfl) (hf : X.fn n = true ∨ X.env.scope.names.lookup n = some .local := by first | exact .inl rfl | exact .inr rfl | assumption) :
    LS X (.Assign [.Name n pos'] e pos) (sAsg x (gNm i)) := fun W tk => by
  refine ps_weak (ps_set hN hi hx (he W tk) hs hf) fun D σ H h => ?_
  obtain ⟨σl, L, Dl, rh, rs, sd, h⟩ := h
  refine ⟨σl, L, _, Dl.ex, rh, rs, fun l L1 v H1 r1 y1 rv q => ?_, sd.ex, h⟩
  exact sd.nx _ L1 _ H1 r1 y1 ((rs.ext y1).set i rv) q
/-! ### blocks and small statements -/
def sNext : LTS := fun D σ L => D.nx σ L
def sSeq (t u : LTS) : LTS := fun D σ L => t { D with nx := u D } σ L
def sDrop (x : LTE) : LTS := fun D σ L => x σ L (fun _ L1 => D.nx σ L1) D.ex
def sRet (x : LTE) : LTS := fun D σ L => x σ L D.rt D.ex
def sRetN : LTS := fun D _ L => D.rt .non L
def sIf (c : LTT) (t u : LTS) : LTS := fun D σ L => c σ L (fun b L1 => match b with
  | true => t D σ L1
  | false => u D σ L1) D.ex
variable {st : Stmt} {rest a b : List Stmt} {t' u : LTS}
theorem lss_nil : LSs X [] sNext := fun W _ => by
  refine pss_weak pss_nil fun D σ H h => ?_
  obtain ⟨σl, L, Dl, rh, rs, sd, h⟩ := h
  exact sd.nx _ L _ H rh .refl rs h
theorem lss_cons (h1 : LS X st t') (h2 : LSs X rest u) : LSs X (st :: rest) (sSeq t' u) := fun W tk => by
  refine pss_weak (pss_cons (h1 W tk) (h2 W tk)) fun D σ H h => ?_
  obtain ⟨σl, L, Dl, rh, rs, sd, h⟩ := h
  refine ⟨σl, L, { Dl with nx := u Dl }, rh, rs, ⟨fun σl' L' σ' H' r y rs' q => ?_, sd.rt, sd.bk, sd.ct, sd.ex⟩, h⟩
  exact ⟨σl', L', Dl, r, rs', sd.ext y, q⟩
theorem lss_one (h1 : LS X st t') : LSs X [st] t' := fun W tk => pss_one (h1 W tk)
theorem ls_pass : LS X (.Pass pos) sNext := fun W _ => by
  refine ps_weak ps_pass fun D σ H h => ?_
  obtain ⟨σl, L, Dl, rh, rs, sd, h⟩ := h
  exact sd.nx _ L _ H rh .refl rs h
theorem ls_expr (he : LE X e x) (hs : swapsWith e none pos.line X.env = pure false := by rfl) : LS X (.Expr e pos) (sDrop x) := fun W tk => by
  refine ps_weak (ps_expr (he W tk) hs) fun D σ H h => ?_
  obtain ⟨σl, L, Dl, rh, rs, sd, h⟩ := h
  exact ⟨σl, L, _, Dl.ex, rh, rs, fun l L1 v H1 r1 y1 rv q => sd.nx _ L1 _ H1 r1 y1 (rs.ext y1) q, sd.ex, h⟩
theorem ls_ret (he : LE X e x) : LS X (.Return (some e) pos) (sRet x) := fun W tk => by
  refine ps_weak (ps_ret (he W tk)) fun D σ H h => ?_
  obtain ⟨σl, L, Dl, rh, rs, sd, h⟩ := h
  exact ⟨σl, L, _, Dl.ex, rh, rs, sd.rt, sd.ex, h⟩
theorem ls_retn : LS X (.Return none pos) sRetN := fun W _ => by
  refine ps_weak ps_retN fun D σ H h => ?_
  obtain ⟨σl, L, Dl, rh, rs, sd, h⟩ := h
  exact sd.rt .non L _ H rh .refl rfl h
theorem ls_if {c : Expr} {tc : LTT} (hc : LT X c tc) (ha : LSs X a t') (hb : LSs X b u) : LS X (.If c a b pos) (sIf tc t' u) := fun W tk => by
  refine ps_weak (ps_if (hc W tk) (ha W tk) (hb W tk)) fun D σ H h => ?_
  obtain ⟨σl, L, Dl, rh, rs, sd, h⟩ := h
  refine ⟨σl, L, _, Dl.ex, rh, rs, fun k L1 H1 r1 y1 q => ?_, sd.ex, h⟩
  cases k with
  | true => exact iteT ⟨σl, L1, Dl, r1, rs.ext y1, sd.ext y1, q⟩
  | false => exact iteF ⟨σl, L1, Dl, r1, rs.ext y1, sd.ext y1, q⟩
/-! ### a list is let be -/
def xFrz (x : LTE) : LTE := fun σ L Q E => x σ L (fun v L1 => match v with
  | .ref p => ∃ ls, L1 p = some (.lst ls) ∧ Q (.lst ls) (ler L1 p)
  | _ => False) E
theorem le_frz (h : LE X e x) : LE X e (xFrz x) := fun W tk => by
  refine pe_weak (h W tk) fun σ H Q h => ?_
  obtain ⟨σl, L, Ql, El, rh, rs, s, sx, h⟩ := h
  refine ⟨σl, L, _, El, rh, rs, fun l L1 v H1 r1 y1 rv q => ?_, sx, h⟩
  cases l with
  | ref p =>
    obtain ⟨ls, e1, q⟩ := q
    obtain ⟨xs, hx, rx⟩ := r1.lst e1
    rw [rv.ref_inv]
    exact s (.lst ls) (ler L1 p) _ H1 r1.let_go (y1.trans .let_go) (.of_lst ⟨ler_same, hx⟩ (rx.ext .let_go)) q
  | _ => exact q.elim
/-- another view of the same state -/
def AbsS (σ : LSt) (L : LHp) (σ' : LSt) (L' : LHp) : Prop := ∀ K H s, RH K L H → RS K L H σ s → RH K L' H ∧ RS K L' H σ' s ∧ ∀ p, L p = none → L' p = none
def sG (u : LTS) : LTS := fun D σ L => ∃ σ' L', AbsS σ L σ' L' ∧ u D σ' L'
theorem lss_g (h : LSs X rest u) : LSs X rest (sG u) := fun W tk => by
  refine pss_weak (h W tk) fun D σ H h => ?_
  obtain ⟨σl, L, Dl, rh, rs, sd, σl', L', ab, h⟩ := h
  obtain ⟨r1, rs1, n1⟩ := ab _ _ _ rh rs
  exact ⟨σl', L', Dl, r1, rs1, sd.ext fun p o h1 _ h2 => ⟨n1 p h2, h1⟩, h⟩
/-! ### raise -/
def sRaise (C : Addr) : LTS := fun D _ L => D.ex ⟨C, none⟩ L
theorem ls_raise {C : Addr} {n m : Str} {j : Nat} {p2 : Pos} (hc : X.calm = true) (q : PySem.W.excIn X.K C [.type "ValueError", .type "Exception", .type "BaseException", .type "object"] "ValueError.__new__" = true) (gC : X.mg n = some (.ref C)) (kC : PySem.W.keepIn X.K (.ref C) = true) (r : Raises X (.ref C)) (hg : Gl X n := by rfl)
    (hdb : (n == ("__debug__" : Str)) = false := by decide) : LS X (.Raise (some (.Call (.Name n p) [.Constant (.str m) j p2] [] pos')) none pos) (sRaise C) := fun W tk => by
  refine ps_weak (L2N.ps_raise hc tk (L2N.pmk_own PySem.F.excBase_ValueError q gC kC r hg hdb)) fun D σ H h => ?_
  obtain ⟨σl, L, Dl, rh, rs, sd, h⟩ := h
  exact sd.ex ⟨C, none⟩ L _ _ σ H rh .refl ⟨rfl, fun _ => rfl, fun r z => nomatch z⟩ h
end
end LK
set_option Elab.async false
set_option linter.all false
set_option maxRecDepth 100000
set_option maxHeartbeats 2000000
/-! Rules: loops, comprehensions. -/
namespace LK
open PySem PySem.Spec PyProof.Rows L2

/-! ### what is walked -/
structure Wk (K : PySem.W.Frag) (J : It) (items : List LV) (stay : LHp → Prop) (L1 : LHp) (H1 : Hp) : Prop where
  go : ∀ i L' H' l, RH K L' H' → Ext L1 H1 L' H' → stay L' → items[i]? = some l → J.go i H' ∧ ∀ x H'', J.yld i H' x H'' → H'' = H' ∧ RV K L' H' l x
  stop : ∀ i L' H', RH K L' H' → Ext L1 H1 L' H' → stay L' → items.length ≤ i → J.stop i H'
abbrev LTI := LSt → LHp → (List LV → (LHp → Prop) → LHp → Prop) → XL → Prop
def upI (K : PySem.W.Frag) (W : WX) (it : LTI) : TI := fun σ H R => ∃ σl L Rl El, RH K L H ∧ RS K L H σl σ ∧ SimX K L H El W ∧
  (∀ items stay L1 H1 J, RH K L1 H1 → Ext L H L1 H1 → Wk K J items stay L1 H1 → stay L1 → Rl items stay L1 → R J H1) ∧ it σl L Rl El
def LI (X : Cx) (tg e : Expr) (it : LTI) : Prop := ∀ W, L2N.Takes X W → PI X tg e (upI X.K W it)
theorem pi_weak {X : Cx} {tg e : Expr} {t t' : TI} (h : PI X tg e t) (w : ∀ σ H R, t' σ H R → t σ H R) : PI X tg e t' := ⟨fun pins s σ H R I q => h.run pins s σ H R I (w _ _ _ q)⟩
/-- a list -/
def iLst (x : LTE) : LTI := fun σ L R E => x σ L (fun a L1 => match a with
  | .lst ls => R ls (fun _ => True) L1
  | .wl ls => R ls (fun _ => True) L1
  | .ref p => ∃ ls, L1 p = some (.lst ls) ∧ R ls (fun L' => L' p = some (.lst ls)) L1
  | _ => False) E
def iTup (x : LTE) : LTI := fun σ L R E => x σ L (fun a L1 => match tupOf a with
  | some ls => R ls (fun _ => True) L1
  | none => False) E
def signs (z : Str) : List LV := z.cps.toList.map fun c => LV.str ⟨#[c]⟩
def iStr (x : LTE) : LTI := fun σ L R E => x σ L (fun a L1 => match a with
  | .str z => R (signs z) (fun _ => True) L1
  | _ => False) E
def upto (n : Nat) : List LV := (List.range n).map fun (i : Nat) => LV.int (i : Int)
def iRng (x : LTE) : LTI := fun σ L R E => x σ L (fun a L1 => match a with
  | .int j => -(2 ^ 62) ≤ j ∧ j < 2 ^ 62 ∧ R (upto j.toNat) (fun _ => True) L1
  | _ => False) E
section
variable {X : Cx} {tg e : Expr} {x : LTE} {pos p : Pos}
theorem wk_seq {K : PySem.W.Frag} {items : List LV} {a : Addr} {L1 : LHp} {H1 : Hp} {stay : LHp → Prop}
    (h : ∀ L' H', RH K L' H' → Ext L1 H1 L' H' → stay L' → ∃ xs, SqL K H' a xs ∧ RVs K L' H' items xs) : Wk K (Itl K a) items stay L1 H1 where
  go := fun i L' H' l r y st e => by
    obtain ⟨xs, hs, rx⟩ := h L' H' r y st
    obtain ⟨v, e1, rv⟩ := rx.get e
    refine ⟨⟨xs, v, hs, e1⟩, fun z H'' q => ⟨q.1, ?_⟩⟩
    have e2 := q.2 xs hs
    rw [e1] at e2
    rw [← Option.some.inj e2]
    exact rv
  stop := fun i L' H' r y st e => by
    obtain ⟨xs, hs, rx⟩ := h L' H' r y st
    exact ⟨xs, hs, by rw [rx.length]; exact e⟩
theorem li_lst (h : LE X e x) : LI X tg e (iLst x) := fun W tk => by
  refine pi_weak (pi_list (h W tk)) fun σ H R h => ?_
  obtain ⟨σl, L, Rl, El, rh, rs, sx, k, h⟩ := h
  refine ⟨σl, L, _, El, rh, rs, fun a L1 v H1 r1 y1 ra h1 => ?_, sx, h⟩
  cases a with
  | lst ls =>
    obtain ⟨p, xs, rfl, f, rx⟩ := ra.lst_inv
    exact ⟨p, rfl, ⟨xs, f.sq⟩, k ls _ L1 H1 _ r1 y1 (wk_seq fun L' H' r y _ => ⟨xs, (f.ext y).sq, rx.ext y⟩) trivial h1⟩
  | wl ls =>
    obtain ⟨p, xs, rfl, f, rx⟩ := ra.wl_inv
    exact ⟨p, rfl, ⟨xs, f.sq⟩, k ls _ L1 H1 _ r1 y1 (wk_seq fun L' H' r y _ => ⟨xs, (f.ext y).sq, rx.ext y⟩) trivial h1⟩
  | ref p =>
    obtain ⟨ls, e1, q⟩ := h1
    rw [ra.ref_inv]
    obtain ⟨xs, hx, rx⟩ := r1.lst e1
    exact ⟨p, rfl, ⟨xs, SqL.of hx⟩, k ls _ L1 H1 _ r1 y1 (wk_seq fun L' H' r y st => let ⟨xs, hx, rx⟩ := r.lst st; ⟨xs, SqL.of hx, rx⟩) e1 q⟩
  | _ => exact h1.elim
theorem li_tup (h : LE X e x) : LI X tg e (iTup x) := fun W tk => by
  refine pi_weak (pi_tup (h W tk)) fun σ H R h => ?_
  obtain ⟨σl, L, Rl, El, rh, rs, sx, k, h⟩ := h
  refine ⟨σl, L, _, El, rh, rs, fun a L1 v H1 r1 y1 ra h1 => ?_, sx, h⟩
  have main : ∀ (ls : List LV) (p : Addr) (xs : List V), v = .ref p → (∀ L' H', Ext L1 H1 L' H' → SqT X.K H' p xs ∧ RVs X.K L' H' ls xs) → Rl ls (fun _ => True) L1 → ∃ a, v = .ref a ∧ (∃ xs, SqT X.K H1 a xs) ∧ R (Itt X.K a) H1 := fun ls p xs ev hh q => by
    refine ⟨p, ev, ⟨xs, (hh L1 H1 .refl).1⟩, k ls _ L1 H1 _ r1 y1 ⟨fun i L' H' l r y st e => ?_, fun i L' H' r y st e => ?_⟩ trivial q⟩
    · obtain ⟨hs, rx⟩ := hh L' H' y
      obtain ⟨w, e1, rv⟩ := rx.get e
      refine ⟨⟨xs, w, hs, e1⟩, fun z H'' q => ⟨q.1, ?_⟩⟩
      have e2 := q.2 xs hs
      rw [e1] at e2
      rw [← Option.some.inj e2]
      exact rv
    · obtain ⟨hs, rx⟩ := hh L' H' y
      exact ⟨xs, hs, by rw [rx.length]; exact e⟩
  cases a with
  | tup ls =>
    obtain ⟨p, xs, ev, f, rx⟩ := ra.tup_inv
    exact main ls p xs ev (fun L' H' y => ⟨(f.ext y).sq, rx.ext y⟩) h1
  | wt ls =>
    obtain ⟨p, xs, ev, f, rx⟩ := ra.wt_inv
    exact main ls p xs ev (fun L' H' y => ⟨f.sq, rx.ext y⟩) h1
  | _ => exact h1.elim
theorem li_str (h : LE X e x) : LI X tg e (iStr x) := fun W tk => by
  refine pi_weak (pi_str (h W tk)) fun σ H R h => ?_
  obtain ⟨σl, L, Rl, El, rh, rs, sx, k, h⟩ := h
  refine ⟨σl, L, _, El, rh, rs, fun a L1 v H1 r1 y1 ra h1 => ?_, sx, h⟩
  cases a with
  | str z =>
    have len : (signs z).length = z.cps.size := by simp [signs]
    refine ⟨z, ra.str_inv, k (signs z) _ L1 H1 _ r1 y1 ⟨fun i L' H' l r y st e => ?_, fun i L' H' r y st e => ?_⟩ trivial h1⟩
    · have hi : i < z.cps.size := by
        rw [← len]
        exact (List.getElem?_eq_some_iff.mp e).1
      refine ⟨hi, fun w H'' q => ⟨q.1, ?_⟩⟩
      obtain ⟨c, e1, e2⟩ := q.2
      have e3 : l = LV.str ⟨#[c]⟩ := by
        unfold signs at e
        rw [List.getElem?_map, Array.getElem?_toList, e1] at e
        exact (Option.some.inj e).symm
      rw [e3, e2]
      rfl
    · rw [len] at e
      exact e
  | _ => exact h1.elim
theorem li_rng (h : LE X e x) (hm : X.mg "range" = none) (hg : Gl X "range" := by rfl) (hs : starEach [e] X.env = [(false, eval e X.env)] := by rfl) : LI X tg (.Call (.Name "range" p) [e] [] pos) (iRng x) := fun W tk => by
  refine pi_weak (pi_range1 hg hm (pa_cons (h W tk) pa_nil hs) hs) fun σ H R h => ?_
  obtain ⟨σl, L, Rl, El, rh, rs, sx, k, h⟩ := h
  refine ⟨σl, L, _, El, rh, rs, fun a L1 v H1 r1 y1 ra h1 => ?_, sx, h⟩
  cases a with
  | int j =>
    have len : (upto j.toNat).length = j.toNat := by simp [upto]
    refine ⟨j, by rw [ra.int_inv], h1.1, h1.2.1, k (upto j.toNat) _ L1 H1 _ r1 y1 ⟨fun i L' H' l r y st e => ?_, fun i L' H' r y st e => ?_⟩ trivial h1.2.2⟩
    · have hi : i < j.toNat := by
        rw [← len]
        exact (List.getElem?_eq_some_iff.mp e).1
      refine ⟨hi, fun w H'' q => ⟨q.1, ?_⟩⟩
      have e3 : l = LV.int i := by
        unfold upto at e
        rw [List.getElem?_map, List.getElem?_range hi] at e
        exact (Option.some.inj e).symm
      rw [e3, q.2, Int.zero_add]
      rfl
    · rw [len] at e
      exact e
  | _ => exact h1.elim
/-! ### for -/
def forGo (g : LTG) (body : LTS) (stay : LHp → Prop) (D : LEnds) : List LV → LSt → LHp → Prop
  | [], σ, L => D.nx σ L
  | l :: ls, σ, L => g l σ L (fun σ2 L2 => body { nx := fun σ3 L3 => stay L3 ∧ forGo g body stay D ls σ3 L3, ct := fun σ3 L3 => stay L3 ∧ forGo g body stay D ls σ3 L3, bk := D.nx, rt := D.rt, ex := D.ex } σ2 L2) D.ex
def sFor (it : LTI) (g : LTG) (body : LTS) : LTS := fun D σ L => it σ L (fun items stay L1 => forGo g body stay D items σ L1) D.ex
theorem ls_for {iter : Expr} {body : List Stmt} {it : LTI} {g : LTG} {b : LTS} (hp : PassesOwn (model X.prog X.w) X.A X.env X.xe) (hc : X.calm = true) (hi : LI X tg iter it) (hg : LG X tg g) (hb : LSs X body b)
    (hs : ∀ x, foldedSetIterable iter X.env x = pure x := by intro _; rfl) : LS X (.For tg iter body [] pos) (sFor it g b) := fun W tk => by
  refine ps_weak (ps_for hp hc (hi W tk) (hg W tk) (hb W tk) hs) fun D σ H h => ?_
  obtain ⟨σl, L, Dl, rh, rs, sd, h⟩ := h
  refine ⟨σl, L, _, Dl.ex, rh, rs, sd.ex, fun items stay L1 H1 J r1 y1 wk st h1 => ?_, h⟩
  refine ⟨fun i m σ' H' => ∃ σl' L', RH X.K L' H' ∧ Ext L1 H1 L' H' ∧ RS X.K L' H' σl' σ' ∧ stay L' ∧ i ≤ items.length ∧ m = items.length - i ∧ forGo g b stay Dl (items.drop i) σl' L',
    ⟨items.length, σl, L1, r1, .refl, rs.ext y1, st, Nat.zero_le _, (by simp), by rw [List.drop_zero]; exact h1⟩, ?_⟩
  rintro i m σ' H' ⟨σl', L', r, y, rs', st', hi', rfl, go⟩
  by_cases hlt : i < items.length
  · rw [List.drop_eq_getElem_cons hlt] at go
    obtain ⟨g1, g2⟩ := wk.go i L' H' items[i] r y st' (List.getElem?_eq_getElem hlt)
    refine .inr ⟨g1, fun σ3 H3 => ∃ σl3 L3, RH X.K L3 H3 ∧ Ext L1 H1 L3 H3 ∧ RS X.K L3 H3 σl3 σ3 ∧ stay L3 ∧ forGo g b stay Dl (items.drop (i + 1)) σl3 L3,
      fun σ3 H3 ⟨σl3, L3, r3, y3, rs3, st3, q3⟩ => ⟨items.length - (i + 1), by omega, σl3, L3, r3, y3, rs3, st3, hlt, rfl, q3⟩, fun x H'' yl => ?_⟩
    obtain ⟨e, rv⟩ := g2 x H'' yl
    subst e
    have y0 := y1.trans y
    refine ⟨items[i], σl', L', _, Dl.ex, r, rs', rv, fun σl2 L2 σ2 H2 r2 y2 rs2 q2 => ?_, sd.ex.ext y0, go⟩
    have y02 := y0.trans y2
    exact ⟨σl2, L2, { nx := fun σ3 L3 => stay L3 ∧ forGo g b stay Dl (items.drop (i + 1)) σ3 L3, ct := fun σ3 L3 => stay L3 ∧ forGo g b stay Dl (items.drop (i + 1)) σ3 L3, bk := Dl.nx, rt := Dl.rt, ex := Dl.ex }, r2, rs2, ⟨fun σl3 L3 σ3 H3 r3 y3 rs3 q3 => ⟨σl3, L3, r3, (y.trans y2).trans y3, rs3, q3.1, q3.2⟩, sd.rt.ext y02, sd.nx.ext y02, fun σl3 L3 σ3 H3 r3 y3 rs3 q3 => ⟨σl3, L3, r3, (y.trans y2).trans y3, rs3, q3.1, q3.2⟩, sd.ex.ext y02⟩, q2⟩
  · have e : i = items.length := by omega
    subst e
    rw [List.drop_length] at go
    exact .inl ⟨wk.stop _ L' H' r y st' (Nat.le_refl _), sd.nx σl' L' σ' H' r (y1.trans y) rs' go⟩
/-! ### while -/
def whGo (c : LTT) (body : LTS) (D : LEnds) : Nat → LSt → LHp → Prop
  | 0, _, _ => False
  | n + 1, σ, L => c σ L (fun b L1 => match b with
    | true => body { nx := whGo c body D n, ct := whGo c body D n, bk := D.nx, rt := D.rt, ex := D.ex } σ L1
    | false => D.nx σ L1) D.ex
def sWhile (c : LTT) (body : LTS) : LTS := fun D σ L => ∃ n, whGo c body D n σ L
theorem ls_while {c : Expr} {body : List Stmt} {tc : LTT} {b : LTS} (hp : PassesOwn (model X.prog X.w) X.A X.env X.xe) (hc : LT X c tc) (hb : LSs X body b) : LS X (.While c body [] pos) (sWhile tc b) := fun W tk => by
  refine ps_weak (ps_while hp (hc W tk) (hb W tk)) fun D σ H h => ?_
  obtain ⟨σl, L, Dl, rh, rs, sd, n, h⟩ := h
  refine ⟨fun m σ' H' => ∃ σl' L', RH X.K L' H' ∧ Ext L H L' H' ∧ RS X.K L' H' σl' σ' ∧ whGo tc b Dl m σl' L', ⟨n, σl, L, rh, .refl, rs, h⟩, ?_⟩
  rintro m σ' H' ⟨σl', L', r, y, rs', go⟩
  cases m with
  | zero => exact go.elim
  | succ m =>
    refine ⟨σl', L', _, Dl.ex, r, rs', fun k L1 H1 r1 y1 q => ?_, sd.ex.ext y, go⟩
    have y2 := y.trans y1
    cases k with
    | true =>
      refine iteT ?_
      refine ⟨fun σ3 H3 => ∃ σl3 L3, RH X.K L3 H3 ∧ Ext L H L3 H3 ∧ RS X.K L3 H3 σl3 σ3 ∧ whGo tc b Dl m σl3 L3, fun σ3 H3 h3 => ⟨m, Nat.lt_succ_self m, h3⟩, ?_⟩
      exact ⟨σl', L1, { nx := whGo tc b Dl m, ct := whGo tc b Dl m, bk := Dl.nx, rt := Dl.rt, ex := Dl.ex }, r1, rs'.ext y1, ⟨fun σl3 L3 σ3 H3 r3 y3 rs3 q3 => ⟨σl3, L3, r3, y2.trans y3, rs3, q3⟩, sd.rt.ext y2, sd.nx.ext y2, fun σl3 L3 σ3 H3 r3 y3 rs3 q3 => ⟨σl3, L3, r3, y2.trans y3, rs3, q3⟩, sd.ex.ext y2⟩, q⟩
    | false =>
      refine iteF ?_
      exact sd.nx σl' L1 σ' H1 r1 y2 (rs'.ext y1) q
/-! ### [e for .. in .. if ..] -/
def LTs (X : Cx) (ifs : List Expr) (t : LTT) : Prop := ∀ W, L2N.Takes X W → PTs X ifs (upT X.K W t)
def xYes : LTT := fun _ L Q _ => Q true L
theorem pts_weak {ifs : List Expr} {t t' : TT} (h : PTs X ifs t) (w : ∀ σ H Q, t' σ H Q → t σ H Q) : PTs X ifs t' := ⟨fun pins s σ H Q I q => h.run pins s σ H Q I (w _ _ _ q)⟩
theorem lts_nil : LTs X [] xYes := fun W _ => by
  refine pts_weak pts_nil fun σ H Q h => ?_
  obtain ⟨σl, L, Ql, El, rh, rs, s, sx, h⟩ := h
  exact s true L H rh .refl h
theorem lts_one {c : Expr} {t : LTT} (h : LT X c t) : LTs X [c] t := fun W tk => pts_one (h W tk)
/-- D the new list, acc what it holds -/
def lcGo (g : LTG) (tt : LTT) (te : LTE) (vs : List Nat) (σ : LSt) (stay : LHp → Prop) (D : Addr) (fin : List LV → LHp → Prop) : List LV → List LV → LHp → Prop
  | [], acc, L => fin acc L
  | l :: ls, acc, L => g l (lwipe σ vs) L (fun σ2 L2 => tt σ2 L2 (fun b L3 => match b with
    | true => te σ2 L3 (fun y L4 => L4 D = some (.lst acc) ∧ acc.length < sizeLine ∧ stay (lup L4 D (.lst (acc ++ [y]))) ∧ lcGo g tt te vs σ stay D fin ls (acc ++ [y]) (lup L4 D (.lst (acc ++ [y])))) (fun _ _ => False)
    | false => stay L3 ∧ lcGo g tt te vs σ stay D fin ls acc L3) (fun _ _ => False)) (fun _ _ => False)
def finL (fr : Bool) (D : Addr) (Q : QL) (acc : List LV) (L : LHp) : Prop := match fr with
  | true => L D = some (.lst acc) ∧ Q (.lst acc) (ler L D)
  | false => Q (.ref D) L
def xLc (fr : Bool) (it : LTI) (g : LTG) (tt : LTT) (te : LTE) (vs : List Nat) : LTE := fun σ L Q E => it σ L (fun items stay L1 => ∀ D, L1 D = none → stay (lup L1 D (.lst [])) ∧ lcGo g tt te vs σ stay D (finL fr D Q) items [] (lup L1 D (.lst []))) E
/-- the targets of a comprehension: its own names alone -/
def GOwn (g : LTG) (vs : List Nat) (gx : TG) : Prop := (∀ v σ H Q, gx v σ H Q → gx v σ H fun σ2 H2 => L2.wipe σ2 vs = L2.wipe σ vs ∧ Q σ2 H2)
theorem wipe_set {vs : List Nat} {i : Nat} {o : Option V} (σ : List (Option V)) (h : i ∈ vs) : L2.wipe (σ.set i o) vs = L2.wipe σ vs := by
  induction vs with
  | nil => cases h
  | cons v vs ih =>
    unfold L2.wipe
    by_cases e : i ∈ vs
    · rw [ih e]
    · have ev : i = v := by
        rcases List.mem_cons.mp h with h | h
        · exact h
        · exact absurd h e
      subst ev
      clear ih h
      have : ∀ (us : List Nat) (σ : List (Option V)), i ∉ us → L2.wipe (σ.set i o) us = (L2.wipe σ us).set i o := fun us => by
        induction us with
        | nil => intro σ _; rfl
        | cons u us ih =>
          intro σ hu
          unfold L2.wipe
          rw [ih σ (fun z => hu (List.mem_cons_of_mem _ z)), List.set_comm _ _ (fun z => hu (by rw [z]; exact List.mem_cons_self))]
      rw [this vs σ e, List.set_set]
theorem wipe_wipe (σ : List (Option V)) (vs : List Nat) : L2.wipe (L2.wipe σ vs) vs = L2.wipe σ vs := by
  have : ∀ (us : List Nat), (∀ u ∈ us, u ∈ vs) → L2.wipe (L2.wipe σ us) vs = L2.wipe σ vs := fun us => by
    induction us with
    | nil => intro _; rfl
    | cons u us ih =>
      intro hu
      show L2.wipe ((L2.wipe σ us).set u none) vs = _
      rw [wipe_set _ (hu u List.mem_cons_self), ih fun w hw => hu w (List.mem_cons_of_mem _ hw)]
  exact this vs fun _ h => h
end
end LK
set_option Elab.async false
set_option linter.all false
set_option maxRecDepth 100000
set_option maxHeartbeats 2000000
/-! Rules: comprehensions, dicts, sorted. -/
namespace LK
open PySem PySem.Spec PyProof.Rows L2
def GOw (K : PySem.W.Frag) (gx : LTG) (gh : TG) (vs : List Nat) : Prop := ∀ l σl L Ql El v σ H (Q : L2.St → Hp → Prop), RH K L H → RS K L H σl σ → RV K L H l v → gx l σl L Ql El →
  (∀ σl2 σ2, RS K L H σl2 σ2 → L2.wipe σ2 vs = L2.wipe σ vs → Ql σl2 L → Q σ2 H) → gh v σ H Q
theorem gow_name {K : PySem.W.Frag} {i : Nat} {vs : List Nat} (h : i ∈ vs) : GOw K (gNm i) (gName i) vs := fun l σl L Ql El v σ H Q rh rs rv hx k => k _ _ (rs.set i rv) (wipe_set σ h) hx
theorem names_ow {K : PySem.W.Frag} {L : LHp} {H : Hp} {vs : List Nat} : ∀ {is : List Nat} {ls : List LV} {xs : List V} {σl : LSt} {σ : L2.St} {Ql : LSt → LHp → Prop} {Q : L2.St → Hp → Prop}, (∀ i ∈ is, i ∈ vs) → RS K L H σl σ → RVs K L H ls xs → ls.length = is.length → Ql (setAll σl is ls) L →
    (∀ σl2 σ2, RS K L H σl2 σ2 → L2.wipe σ2 vs = L2.wipe σ vs → Ql σl2 L → Q σ2 H) → gNames is xs σ H Q
  | [], ls, xs, σl, σ, Ql, Q, hv, rs, r, hl, h, k => by
    have e : ls = [] := List.length_eq_zero_iff.mp hl
    subst e
    unfold RVs at r
    exact ⟨r, k _ _ rs rfl h⟩
  | i :: is, [], xs, σl, σ, Ql, Q, hv, rs, r, hl, h, k => by cases hl
  | i :: is, l :: ls, xs, σl, σ, Ql, Q, hv, rs, r, hl, h, k => by
    unfold RVs at r
    obtain ⟨v, q, e, h1, h2⟩ := r
    refine ⟨v, q, e, names_ow (fun j hj => hv j (List.mem_cons_of_mem _ hj)) (rs.set i h1) h2 (by simpa using hl) h fun σl2 σ2 rs2 e2 q2 => k σl2 σ2 rs2 (e2.trans (wipe_set σ (hv i List.mem_cons_self))) q2⟩
theorem gow_tup {K : PySem.W.Frag} {is vs : List Nat} (h : ∀ i ∈ is, i ∈ vs) : GOw K (gTp is) (gTup K is.length (gNames is)) vs := fun l σl L Ql El v σ H Q rh rs rv hx k => by
  unfold gTp at hx
  cases q : tupOf l with
  | none => simp only [q] at hx
  | some ls =>
    simp only [q] at hx
    obtain ⟨a, xs, rfl, hs, rx⟩ := tupOf_sim rv q
    exact ⟨a, xs, rfl, hs, by rw [rx.length]; exact hx.1, names_ow h rs rx hx.1 hx.2 k⟩
section
variable {X : Cx}
theorem up_lc {K : PySem.W.Frag} {W : WX} {fr : Bool} {it : LTI} {g : LTG} {gh : TG} {tt : LTT} {te : LTE} {vs : List Nat} (go : GOw K g gh vs) {σ : L2.St} {H : Hp} {Q : VK} (h : upE K W (xLc fr it g tt te vs) σ H Q) :
    tLc (upI K W it) gh (upT K (fun _ _ _ _ => False) tt) (upE K (fun _ _ _ _ => False) te) vs σ H Q := by
  obtain ⟨σl, L, Ql, El, rh, rs, s, sx, h⟩ := h
  refine ⟨σl, L, _, El, rh, rs, sx, fun items stay L1 H1 J r1 y1 wk st h1 => ?_, h⟩
  intro D hD
  have hLD := r1.fresh hD
  obtain ⟨st0, h1⟩ := h1 D hLD
  have yD : Ext L1 H1 (lup L1 D (.lst [])) (upd H1 D (.lst [])) := Ext.new r1 hD
  have none0 : ∀ {L' : LHp} {H' : Hp}, SimX K L' H' (fun _ _ => False) (fun _ _ _ _ => False) := fun _ _ _ _ _ _ _ _ _ q => q
  refine ⟨fun i m H' => ∃ L' acc, RH K L' H' ∧ Ext L1 H1 L' H' ∧ stay L' ∧ i ≤ items.length ∧ m = items.length - i ∧ lcGo g tt te vs σl stay D (finL fr D Ql) (items.drop i) acc L',
    ⟨items.length, lup L1 D (.lst []), [], r1.new (lo := .lst []) hD ⟨[], rfl, .nil⟩, yD, st0, Nat.zero_le _, (by simp), by rw [List.drop_zero]; exact h1⟩, ?_⟩
  rintro i m H' ⟨L', acc, r, y, st', hi', rfl, q⟩
  by_cases hlt : i < items.length
  · rw [List.drop_eq_getElem_cons hlt] at q
    obtain ⟨g1, g2⟩ := wk.go i L' H' items[i] r y st' (List.getElem?_eq_getElem hlt)
    refine .inr ⟨g1, fun H3 => ∃ L3 acc3, RH K L3 H3 ∧ Ext L1 H1 L3 H3 ∧ stay L3 ∧ lcGo g tt te vs σl stay D (finL fr D Ql) (items.drop (i + 1)) acc3 L3,
      fun H3 ⟨L3, acc3, r3, y3, st3, q3⟩ => ⟨items.length - (i + 1), by omega, L3, acc3, r3, y3, st3, hlt, rfl, q3⟩, fun x H'' yl => ?_⟩
    obtain ⟨e, rv⟩ := g2 x H'' yl
    subst e
    have y0 := y1.trans y
    refine go items[i] (lwipe σl vs) L' _ _ x (L2.wipe σ vs) H'' _ r ((rs.ext y0).wipe vs) rv q fun σl2 σ2 rs2 e2 q2 => ?_
    refine ⟨by rw [e2, wipe_wipe], ?_⟩
    refine ⟨σl2, L', _, fun _ _ => False, r, rs2, fun b L3 H3 r3 y3 q3 => ?_, none0, q2⟩
    cases b with
    | true =>
      refine iteT ?_
      refine ⟨σl2, L3, _, fun _ _ => False, r3, rs2.ext y3, fun l4 L4 v4 H4 r4 y4 rv4 q4 => ?_, none0, q3⟩
      obtain ⟨hD4, hz, st4, q4⟩ := q4
      obtain ⟨xs, hx, rx⟩ := r4.lst hD4
      refine ⟨xs, hx, by rw [rx.length]; exact hz, ?_⟩
      have yu : Ext L4 H4 (lup L4 D (.lst (acc ++ [l4]))) (upd H4 D (.lst (xs ++ [v4]))) := Ext.upd (some_ne hD4)
      exact ⟨lup L4 D (.lst (acc ++ [l4])), acc ++ [l4], r4.upd (lo := .lst (acc ++ [l4])) (some_ne hD4) ⟨_, rfl, rx.snoc rv4⟩, ((y.trans y3).trans y4).trans yu, st4, q4⟩
    | false =>
      refine iteF ?_
      exact ⟨L3, acc, r3, y.trans y3, q3.1, q3.2⟩
  · have e : i = items.length := by omega
    subst e
    rw [List.drop_length] at q
    refine .inl ⟨wk.stop _ L' H' r y st' (Nat.le_refl _), ?_⟩
    have q' : finL fr D Ql acc L' := q
    have y0 := y1.trans y
    cases fr with
    | true =>
      obtain ⟨hD', q'⟩ := q'
      obtain ⟨xs, hx, rx⟩ := r.lst hD'
      exact s (.lst acc) (ler L' D) _ H' r.let_go (y0.trans .let_go) (.of_lst ⟨ler_same, hx⟩ (rx.ext .let_go)) q'
    | false => exact s (.ref D) L' _ H' r y0 rfl q'
theorem le_lc {elt tg iter : Expr} {ifs : List Expr} {scope : Scope} {own : List (Str × Nat)} {pos : Pos} {it : LTI} {g : LTG} {gh : TG} {tt : LTT} {te : LTE} (fr : Bool) (hc : X.calm = true) (hN : X.N.Nodup) (hi : LI X tg iter it) (ok : BlkOk X.N X.env.scope scope own)
    (hg : ∀ (s : Shared) (H : Hp) (C : Addr) (cl : List (Str × Addr)) (fp : List Addr), PG (X.blk s H scope (compEnvC scope cl C X.env) fp) tg gh) (go : GOw X.K g gh (own.map (·.2)))
    (ht : ∀ (s : Shared) (H : Hp) (C : Addr) (cl : List (Str × Addr)) (fp : List Addr), LTs (X.blk s H scope (compEnvC scope cl C X.env) fp) ifs tt)
    (he : ∀ (s : Shared) (H : Hp) (C : Addr) (cl : List (Str × Addr)) (fp : List Addr), LE (X.blk s H scope (compEnvC scope cl C X.env) fp) elt te) (hs : ∀ x, foldedSetIterable iter X.env x = pure x := by intro _; rfl) :
    LE X (.ListComp elt [⟨tg, iter, ifs, 0⟩] scope pos) (xLc fr it g tt te (own.map (·.2))) := fun W tk =>
  pe_weak (pe_lc (tt := upT X.K (fun _ _ _ _ => False) tt) (te := upE X.K (fun _ _ _ _ => False) te) hc hN (hi W tk) ok hg (fun s H C cl fp => ht s H C cl fp _ takes0N) (fun s H C cl fp => he s H C cl fp _ takes0N) hs) fun σ H Q h => up_lc go h
theorem ls_setlc {i : Nat} {y : Str} {py : Pos} {elt tg iter : Expr} {ifs : List Expr} {scope : Scope} {own : List (Str × Nat)} {pos spos : Pos} {it : LTI} {g : LTG} {gh : TG} {tt : LTT} {te : LTE} (fr : Bool) (hc : X.calm = true) (hN : X.N.Nodup) (hi : LI X tg iter it) (ok : BlkOk X.N X.env.scope scope own)
    (hg : ∀ (s : Shared) (H : Hp) (C : Addr) (cl : List (Str × Addr)) (fp : List Addr), PG (X.blk s H scope (compEnvC scope cl C X.env) fp) tg gh) (go : GOw X.K g gh (own.map (·.2)))
    (ht : ∀ (s : Shared) (H : Hp) (C : Addr) (cl : List (Str × Addr)) (fp : List Addr), LTs (X.blk s H scope (compEnvC scope cl C X.env) fp) ifs tt)
    (he : ∀ (s : Shared) (H : Hp) (C : Addr) (cl : List (Str × Addr)) (fp : List Addr), LE (X.blk s H scope (compEnvC scope cl C X.env) fp) elt te) (hy : X.N[i]? = some y := by rfl) (hyl : X.env.scope.names.lookup y = some .local := by rfl)
    (hsw : swapsWith (.ListComp elt [⟨tg, iter, ifs, 0⟩] scope pos) (some (.Name y py)) spos.line X.env = pure true := by exact sw_true rfl rfl rfl (by decide +kernel)) (hs : ∀ x, foldedSetIterable iter X.env x = pure x := by intro _; rfl) :
    LS X (.Assign [.Name y py] (.ListComp elt [⟨tg, iter, ifs, 0⟩] scope pos) spos) (sAsg (xLc fr it g tt te (own.map (·.2))) (gNm i)) := fun W tk => by
  refine ps_weak (ps_setLc (tt := upT X.K (fun _ _ _ _ => False) tt) (te := upE X.K (fun _ _ _ _ => False) te) hc hN hy hyl hsw (hi W tk) ok hg (fun s H C cl fp => ht s H C cl fp _ takes0N) (fun s H C cl fp => he s H C cl fp _ takes0N) hs) fun D σ H h => ?_
  obtain ⟨σl, L, Dl, rh, rs, sd, h⟩ := h
  refine up_lc (K := X.K) (W := W) (fr := fr) go ⟨σl, L, _, Dl.ex, rh, rs, fun l L1 v H1 r1 y1 rv q => ?_, sd.ex, h⟩
  exact sd.nx _ L1 _ H1 r1 y1 ((rs.ext y1).set i rv) q

/-! ### dicts -/
def newD (lo : LO) (L : LHp) (Q : QL) : Prop := ∀ p, L p = none → Q (.ref p) (lup L p lo)
def xDK : LTE := fun _ L Q _ => newD (.dct []) L Q
def xDT : LTE := fun _ L Q _ => newD (.dtt []) L Q
theorem le_dk {pos : Pos} : LE X (.Dict [] [] pos) xDK := fun W _ => by
  refine pe_weak pe_dnewK fun σ H Q h => ?_
  obtain ⟨σl, L, Ql, El, rh, rs, s, sx, h⟩ := h
  exact fun p hp => s (.ref p) _ _ _ (rh.new (lo := .dct []) hp ⟨[], rfl, .nil⟩) (Ext.new rh hp) rfl (h p (rh.fresh hp))
theorem le_dt {pos : Pos} : LE X (.Dict [] [] pos) xDT := fun W _ => by
  refine pe_weak pe_dnewT fun σ H Q h => ?_
  obtain ⟨σl, L, Ql, El, rh, rs, s, sx, h⟩ := h
  exact fun p hp => s (.ref p) _ _ _ (rh.new (lo := .dtt []) hp ⟨[], rfl, .nil⟩) (Ext.new rh hp) rfl (h p (rh.fresh hp))
/-- {k: v, ..} -/
def mg (kvs more : List (Key × LV)) : List (Key × LV) := more.foldl (fun acc kv => pl acc kv.1 kv.2) kvs
theorem RKV.merge {K : PySem.W.Frag} {L : LHp} {H : Hp} : ∀ {more : List (Key × LV)} {rs : List (Key × V)} {kvs : List (Key × LV)} {vs : List (Key × V)}, RKV K L H more rs → RKV K L H kvs vs → RKV K L H (mg kvs more) (mergeK vs rs)
  | [], rs, kvs, vs, h, g => by
    have e : rs = [] := h
    rw [e]; exact g
  | (k, l) :: more, rs, kvs, vs, h, g => by
    obtain ⟨v, r, rfl, h1, h2⟩ := h
    show RKV K L H (mg (pl kvs k l) more) (mergeK (putK vs k v) r)
    exact RKV.merge h2 (g.put k h1)
/-- the pairs of a display -/
def xPairs : List (LTE × LTE) → LSt → LHp → (List (LV × LV) → LHp → Prop) → XL → Prop
  | [], _, L, Q, _ => Q [] L
  | (k, v) :: r, σ, L, Q, E => k σ L (fun a L1 => v σ L1 (fun b L2 => xPairs r σ L2 (fun ps L3 => Q ((a, b) :: ps) L3) E) E) E
def keyed : List (LV × LV) → Option (List (Key × LV))
  | [] => some []
  | (a, b) :: r => match lKey a, keyed r with
    | some k, some kvs => some ((k, b) :: kvs)
    | _, _ => none
def xDisp (trs : List (LTE × LTE)) : LTE := fun σ L Q E => ∀ p, L p = none → xPairs trs σ (lup L p (.dct [])) (fun ps L2 => L2 p = some (.dct []) ∧ match keyed ps with
  | some kvs => kvs.length ≤ 15 ∧ Q (.ref p) (lup L2 p (.dct (mg [] kvs)))
  | none => False) E
def LPPs (X : Cx) (pos : Pos) (keys : List (Option Expr)) (values : List Expr) (trs : List (LTE × LTE)) : Prop := ∀ W, L2N.Takes X W → PPs X pos keys values (trs.map fun p => (upE X.K W p.1, upE X.K W p.2))
theorem lpps_nil {pos : Pos} : LPPs X pos [] [] [] := fun W _ => pps_nil
theorem lpps_cons {pos : Pos} {k v : Expr} {ks : List (Option Expr)} {vs : List Expr} {xk xv : LTE} {trs : List (LTE × LTE)} (hk : LE X k xk) (hv : LE X v xv) (hr : LPPs X pos ks vs trs) : LPPs X pos (some k :: ks) (v :: vs) ((xk, xv) :: trs) := fun W tk => pps_cons (hk W tk) (hv W tk) (hr W tk)
inductive RP (K : PySem.W.Frag) (L : LHp) (H : Hp) : List (LV × LV) → List (V × V) → Prop
  | nil : RP K L H [] []
  | cons {a b : LV} {x y : V} {ls : List (LV × LV)} {xs : List (V × V)} : RV K L H a x → RV K L H b y → RP K L H ls xs → RP K L H ((a, b) :: ls) ((x, y) :: xs)
theorem pairs_up {K : PySem.W.Frag} {W : WX} : ∀ (trs : List (LTE × LTE)) {σl : LSt} {σ : L2.St} {L : LHp} {H : Hp} {Ql : List (LV × LV) → LHp → Prop} {El : XL} {Q : List (V × V) → Hp → Prop}, RH K L H → RS K L H σl σ → SimX K L H El W →
    (∀ ls L' xs H', RH K L' H' → Ext L H L' H' → RP K L' H' ls xs → Ql ls L' → Q xs H') → xPairs trs σl L Ql El → tPairs (trs.map fun p => (upE K W p.1, upE K W p.2)) σ H Q
  | [], σl, σ, L, H, Ql, El, Q, rh, rs, sx, s, h => s [] L [] H rh .refl .nil h
  | (k, v) :: r, σl, σ, L, H, Ql, El, Q, rh, rs, sx, s, h => by
    refine ⟨σl, L, _, El, rh, rs, fun a L1 x H1 r1 y1 ra h1 => ?_, sx, h⟩
    refine ⟨σl, L1, _, El, r1, rs.ext y1, fun b L2 y H2 r2 y2 rb h2 => ?_, sx.ext y1, h1⟩
    refine pairs_up r r2 (rs.ext (y1.trans y2)) (sx.ext (y1.trans y2)) (fun ls L' xs H' r3 y3 rp q => ?_) h2
    exact s _ L' _ H' r3 ((y1.trans y2).trans y3) (.cons (RV.ext (y2.trans y3) a x ra) (RV.ext y3 b y rb) rp) q
theorem keyed_sim {K : PySem.W.Frag} {L : LHp} {H : Hp} : ∀ {ls : List (LV × LV)} {xs : List (V × V)} {kvs : List (Key × LV)}, RP K L H ls xs → keyed ls = some kvs → ∃ ys, RKV K L H kvs ys ∧ xs = ys.map fun kv => (kV kv.1, kv.2)
  | [], xs, kvs, r, e => by
    cases r
    have e' : ([] : List (Key × LV)) = kvs := Option.some.inj e
    rw [← e']
    exact ⟨[], rfl, rfl⟩
  | (a, b) :: ls, xs, kvs, r, e => by
    cases r with
    | cons ra rb rr =>
      unfold keyed at e
      cases e1 : lKey a with
      | none => simp only [e1] at e; cases e
      | some k =>
        cases e2 : keyed ls with
        | none => simp only [e1, e2] at e; cases e
        | some kvs' =>
          simp only [e1, e2] at e
          have e' : (k, b) :: kvs' = kvs := Option.some.inj e
          obtain ⟨ys, q1, q2⟩ := keyed_sim rr e2
          rw [← e']
          exact ⟨(k, _) :: ys, .cons rb q1, by rw [List.map_cons, lKey_sim e1 ra, q2]⟩
theorem le_disp {pos : Pos} {keys : List (Option Expr)} {values : List Expr} {trs : List (LTE × LTE)} (h : LPPs X pos keys values trs) (hall : keys.all (·.isSome) = true := by rfl) (hl : keys.length = values.length := by rfl) (h0 : keys ≠ [] := by intro z; cases z) (h15 : keys.length ≤ 15 := by decide) : LE X (.Dict keys values pos) (xDisp trs) := fun W tk => by
  refine pe_weak (pe_disp (h W tk) hall hl h0 h15) fun σ H Q h => ?_
  obtain ⟨σl, L, Ql, El, rh, rs, s, sx, h⟩ := h
  intro p hp
  have yn : Ext L H (lup L p (.dct [])) (upd H p (.dK [])) := Ext.new rh hp
  refine pairs_up trs (rh.new (lo := .dct []) hp ⟨[], rfl, .nil⟩) (rs.ext yn) (sx.ext yn) (fun ls L' xs H' r3 y3 rp q => ?_) (h p (rh.fresh hp))
  obtain ⟨e1, q⟩ := q
  obtain ⟨o, e2, ys, e3, rz⟩ := r3.at_ p _ e1
  have e4 : ys = [] := rz
  subst e3 e4
  refine ⟨e2, ?_⟩
  cases e5 : keyed ls with
  | none => simp only [e5] at q
  | some kvs =>
    simp only [e5] at q
    obtain ⟨zs, rz2, e6⟩ := keyed_sim rp e5
    refine ⟨zs, e6, by rw [rz2.length]; exact q.1, ?_⟩
    have yu : Ext L' H' (lup L' p (.dct (mg [] kvs))) (upd H' p (.dK (mergeK [] zs))) := Ext.upd (some_ne e1)
    exact s (.ref p) _ _ _ (r3.upd (lo := .dct (mg [] kvs)) (some_ne e1) ⟨_, rfl, RKV.merge rz2 .nil⟩) ((yn.trans y3).trans yu) rfl q.2
/-- d.pop(k), it is there -/
def rDPop : V → List V → Hp → VK → Prop := fun x xs H Q => ∃ a kvs k v, x = .ref a ∧ xs = [kV k] ∧ H a = some (.dK kvs) ∧ valV kvs k = some v ∧ Q v (upd H a (.dK (dropK kvs k)))
theorem mt_dpop : MtR X "dict.pop" rDPop := by
  intro pins s σ H x xs v us Q I rx rs h
  obtain ⟨a, kvs, k, w, rfl, rfl, e, l, q⟩ := h
  obtain rfl : v = Value.ref a := rx
  obtain ⟨u, rfl, ru⟩ := vals1 rs
  exact d_pop I e ru l (.inl rfl) fun w' s3 I3 rw' => ⟨w, _, I3, rw', q⟩
def lDPop : LM := fun a as L Q => match a, as with
  | .ref p, [b] => match L p, lKey b with
    | some (.dct kvs), some k => match vl kvs k with
      | some l => Q l (lup L p (.dct (dl kvs k)))
      | none => False
    | _, _ => False
  | _, _ => False
theorem m_dpop : MtL X "dict.pop" lDPop := ⟨_, mt_dpop, fun L H a as x xs Ql Q rh ra ras s h => by
  unfold lDPop at h
  split at h
  · rename_i p b
    obtain ⟨v, rfl, rv⟩ := ras.one
    split at h
    · rename_i kvs k q q2
      cases q3 : vl kvs k with
      | none => simp only [q3] at h
      | some l =>
        simp only [q3] at h
        obtain ⟨ys, hy, ry⟩ := rh.dct q
        obtain ⟨w, e1, rw'⟩ := ry.some_of q3
        refine ⟨p, ys, k, w, ra.ref_inv, by rw [lKey_sim q2 rv], hy, e1, ?_⟩
        exact s l _ _ _ (rh.upd (lo := .dct (dl kvs k)) (some_ne q) ⟨_, rfl, ry.drop k⟩) (Ext.upd (some_ne q)) (RV.ext (Ext.upd (some_ne q)) _ _ rw') h
    · exact h.elim
  · exact h.elim⟩
/-- sorted(d) of a dict with texts as keys -/
def txtKeys : List (Key × LV) → Option (List Str)
  | [] => some []
  | (.inr x, _) :: r => (txtKeys r).map fun ns => x :: ns
  | _ :: _ => none
theorem txtKeys_sim {K : PySem.W.Frag} {L : LHp} {H : Hp} : ∀ {kvs : List (Key × LV)} {ys : List (Key × V)} {ss : List Str}, RKV K L H kvs ys → txtKeys kvs = some ss → ys.map (·.1) = ss.map Sum.inr
  | [], ys, ss, r, e => by
    have e1 : ys = [] := r
    have e' : ([] : List Str) = ss := Option.some.inj e
    rw [e1, ← e']; rfl
  | (.inr x, l) :: kvs, ys, ss, r, e => by
    obtain ⟨v, q, rfl, h1, h2⟩ := r
    obtain ⟨ms, e1, e2⟩ := Option.map_eq_some_iff.mp (show (txtKeys kvs).map (fun ns => x :: ns) = some ss from e)
    rw [← e2, List.map_cons, List.map_cons, txtKeys_sim h2 e1]
  | (.inl _, _) :: _, _, _, _, e => by cases e
def lSortD (fr : Bool) : LC := fun as L Q => match as with
  | [.ref p] => match L p with
    | some (.dct kvs) => match txtKeys kvs with
      | some ks => ks.length < 64 ∧ ∀ ys, ys.Perm ks → sortedS ys = true → newL fr (ys.map LV.str) L Q
      | none => False
    | _ => False
  | _ => False
theorem c_sortD {fr : Bool} (hc : X.calm = true) : CallL X (.builtin "sorted") (lSortD fr) := ⟨_, call_sortedD hc, fun L H as xs Ql Q rh ras s h => by
  unfold lSortD at h
  split at h
  · rename_i p
    obtain ⟨x, rfl, ra⟩ := ras.one
    split at h
    · rename_i kvs q
      cases q2 : txtKeys kvs with
      | none => simp only [q2] at h
      | some ks =>
        simp only [q2] at h
        obtain ⟨ys, hy, ry⟩ := rh.dct q
        rw [ra.ref_inv]
        exact ⟨p, ys, ks, rfl, .inl hy, txtKeys_sim ry q2, h.1, fun zs q hz hs hq => newL_sim rh s .of_strs (h.2 zs hz hs) q hq⟩
    · exact h.elim
  · exact h.elim⟩
end
end LK
set_option Elab.async false
set_option linter.all false
set_option maxRecDepth 100000
set_option maxHeartbeats 2000000
/-! Rules: defs, try. -/
namespace LK
open PySem PySem.Spec PyProof.Rows L2
/-- another view of the state behind a return, of an exception -/
def AbsV (v : LV) (L : LHp) (v' : LV) (L' : LHp) : Prop := ∀ K H x, RH K L H → RV K L H v x → RH K L' H ∧ RV K L' H v' x ∧ ∀ p, L p = none → L' p = none
def AbsL (L L' : LHp) : Prop := ∀ K H, RH K L H → RH K L' H ∧ ∀ p, L p = none → L' p = none
def retA (Q : QL) : QL := fun v L => ∃ v' L', AbsV v L v' L' ∧ Q v' L'
def exA (E : XL) : XL := fun e L => ∃ L', AbsL L L' ∧ E e L'
theorem AbsV.refl {v : LV} {L : LHp} : AbsV v L v L := fun _ _ _ r q => ⟨r, q, fun _ h => h⟩
theorem AbsL.refl {L : LHp} : AbsL L L := fun _ _ r => ⟨r, fun _ h => h⟩
theorem ret_same {Q : QL} {v : LV} {L : LHp} (h : Q v L) : retA Q v L := ⟨v, L, .refl, h⟩
theorem ex_same {E : XL} {e : Exn} {L : LHp} (h : E e L) : exA E e L := ⟨L, .refl, h⟩
theorem ret_frz {Q : QL} {p : Addr} {ls : List LV} {L : LHp} (e : L p = some (.lst ls)) (h : Q (.lst ls) (ler L p)) : retA Q (.ref p) L := by
  refine ⟨.lst ls, ler L p, fun K H x r q => ?_, h⟩
  obtain ⟨xs, hx, rx⟩ := r.lst e
  rw [q.ref_inv]
  exact ⟨r.let_go, .of_lst ⟨ler_same, hx⟩ (rx.ext .let_go), fun b hb => (Ext.let_go (H := fun _ => some (.lst [])) b _ rfl (fun _ z => nomatch z) hb).1⟩
/-- a heap with less in it -/
def Sub (L' L : LHp) : Prop := ∀ a, L' a = none ∨ L' a = L a
theorem sub_ext {L L' : LHp} {H : Hp} (s : Sub L' L) : Ext L H L' H := fun p o h1 _ h2 => ⟨by
  rcases s p with e | e
  · exact e
  · rw [e]; exact h2, h1⟩
theorem sub_rh {K : PySem.W.Frag} {L L' : LHp} {H : Hp} (s : Sub L' L) (r : RH K L H) : RH K L' H := ⟨fun a lo e => by
  rcases s a with q | q
  · rw [q] at e; cases e
  · rw [q] at e
    obtain ⟨o, h, ro⟩ := r.at_ a lo e
    exact ⟨o, h, RO.ext (sub_ext s) lo o ro⟩, r.tb, fun p hp => by
    rcases s p.1 with q | q
    · exact q
    · rw [q]; exact r.nt p hp⟩
theorem sub_none {L L' : LHp} (s : Sub L' L) : ∀ p, L p = none → L' p = none := fun p h => by
  rcases s p with e | e
  · exact e
  · rw [e]; exact h
theorem ret_sub {Q : QL} {v : LV} {L L' : LHp} (s : Sub L' L) (h : Q v L') : retA Q v L := ⟨v, L', fun _ _ x r q => ⟨sub_rh s r, RV.ext (sub_ext s) v x q, sub_none s⟩, h⟩
theorem ex_sub {E : XL} {e : Exn} {L L' : LHp} (s : Sub L' L) (h : E e L') : exA E e L := ⟨L', fun _ _ r => ⟨sub_rh s r, sub_none s⟩, h⟩
theorem AbsV.trans {v v1 v2 : LV} {L L1 L2 : LHp} (a : AbsV v L v1 L1) (b : AbsV v1 L1 v2 L2) : AbsV v L v2 L2 := fun K H x r q => by
  obtain ⟨r1, q1, n1⟩ := a K H x r q
  obtain ⟨r2, q2, n2⟩ := b K H x r1 q1
  exact ⟨r2, q2, fun p h => n2 p (n1 p h)⟩
/-- a def by its body -/
def bodyC (n ns : Nat) (B : LTS) : LCall := fun ls L Q E => ls.length = n ∧ B { nx := fun _ L' => retA Q .non L', rt := retA Q, bk := fun _ _ => False, ct := fun _ _ => False, ex := exA E } (startL ns ls) L
theorem ret_sim {K : PySem.W.Frag} {L : LHp} {H : Hp} {Ql : QL} {Q : VK} (s : SimV K L H Ql Q) : SimV K L H (retA Ql) Q := fun l L' v H' r y rv ⟨v', L2, ab, q⟩ => by
  obtain ⟨r2, rv2, n2⟩ := ab K H' v r rv
  exact s v' L2 v H' r2 (y.trans fun p o h1 _ h2 => ⟨n2 p h2, h1⟩) rv2 q
theorem ex_sim {K : PySem.W.Frag} {L : LHp} {H : Hp} {El : XL} {W : WX} (s : SimX K L H El W) : SimX K L H (exA El) W := fun e L' c d σ H' r y rx ⟨L2, ab, q⟩ => by
  obtain ⟨r2, n2⟩ := ab K H' r
  have y2 : Ext L' H' L2 H' := fun p o h1 _ h2 => ⟨n2 p h2, h1⟩
  exact s e L2 c d σ H' r2 (y.trans y2) (rx.ext y2) q
section
variable {P : Program} {w : World} {K : PySem.W.Frag} {mg : Str → Option Value} {base : Heap} {x qual : Str} {params : Arguments} {body : List Stmt} {scope : Scope} {f : Addr} {fd : FuncData}
theorem fnl_of {N ps : List Str} {k : Nat} {B : LTS} (F : FunD K x qual params body scope [] [] f fd) (S : FnScope N ps scope) (b : Binds K fd ps [])
    (h : ∀ (cdv : Value) (A : Around) (outer : List Env) (s : Shared) (H : Hp) (E : XK), Room k (A.deeper (envOfC qual scope s.heap.objs.size f cdv)) → LSs (cxOf (L2N.CX P w) P w K mg base N qual scope f cdv A outer s H E) body B) :
    FnL P w K mg base (k + 1) f ps.length (bodyC ps.length N.length B) := by
  refine ⟨⟨fd, ps, rfl, F.ok S (fun vs H Q E hs => hs.1) fun cdv A outer s H vs Q E hr hs => ?_, b⟩, F.kp⟩
  obtain ⟨hl, ls, L, Ql, El, rh, ra, sv, sx, hl2, q⟩ := hs
  refine ⟨_, h cdv A outer s H E hr _ (L2N.takes_of rfl rfl rfl rfl), startL N.length ls, L, { nx := fun _ L' => retA Ql .non L', rt := retA Ql, bk := fun _ _ => False, ct := fun _ _ => False, ex := exA El }, rh, RS.start ra, ⟨fun σl L' σ H' r y _ q => ?_, ret_sim sv, fun _ _ _ _ _ _ _ z => z.elim, fun _ _ _ _ _ _ _ z => z.elim, ex_sim sx⟩, q⟩
  exact ret_sim sv .non L' .non H' r y rfl q
theorem passN {X : Cx} {K' : Value → Shared → Prop} {E₁ : Value → Shared → Prop} (hx : X.xe = fun e s' => wpAny (model X.prog X.w) X.A (leaving X.env e) (fun _ s'' => K' e s'') E₁ s') : PassesOwn (model X.prog X.w) X.A X.env X.xe := passes_of hx
end
/-! ### try: .. except C1: return 's1' .. -/
section
variable {X : Cx}
/-- the clauses: a class each, what is told -/
def sTryM (b : LTS) (cl : List (Addr × Str)) : LTS := fun D σ L => b { D with ex := fun e L1 => match cl.lookup e.c with
  | some s => D.rt (.str s) L1
  | none => False } σ L
/-- what the classes say: the clauses as they lie -/
inductive Cls6 (X : Cx) : List ExceptHandler → List (Addr × Str) → List (Value × (Addr → Value → Option Addr → TS)) → Prop
  | nil : Cls6 X [] [] []
  | cons {x : Str} {C : Addr} {s : Str} {j : Nat} {p1 p2 np pos' : Pos} {hds : List ExceptHandler} {cl : List (Addr × Str)} {l : List (Value × (Addr → Value → Option Addr → TS))} (hc : Names X x (.ref C)) (r : Cls6 X hds cl l) :
      Cls6 X (.ExceptHandler (some (.Name x np)) none [.Return (some (.Constant (.str s) j p1)) p2] pos' :: hds) ((C, s) :: cl) ((.ref C, fun _ _ _ => tRet (tC (.str s))) :: l)
theorem Cls6.ok {hds : List ExceptHandler} {cl : List (Addr × Str)} {l : List (Value × (Addr → Value → Option Addr → TS))} (h : Cls6 X hds cl l) : L2N.HdsOk X hds l := by
  induction h with
  | nil => exact .nil
  | cons hc r ih => exact .cons hc (fun a oe cls d pn _ _ => pss_one (ps_ret pe_str)) ih
theorem many_sim {K : PySem.W.Frag} {Wout : WX} {D : Ends} {e : Exn} {L' : LHp} {cls : Value} {d : Option Addr} {σ : L2.St} {H' : Hp} {Rt : QL} (ec : cls = .ref e.c) (rt : ∀ s, Rt (.str s) L' → D.rt (.str s) H') : ∀ {hds : List ExceptHandler} {cl : List (Addr × Str)} {l : List (Value × (Addr → Value → Option Addr → TS))}, Cls6 X hds cl l →
    (∀ C ∈ cl.map (·.1), PySem.W.exmOne K (.ref e.c) (.ref C) = some (decide (e.c = C))) → (match cl.lookup e.c with
      | some s => Rt (.str s) L'
      | none => False) → wMany K Wout D l cls d σ H'
  | _, _, _, .nil, _, h => h.elim
  | _, _, _, .cons (C := C) (s := s) hc r, ex, h => by
    have e1 := ex C List.mem_cons_self
    subst ec
    by_cases q : e.c = C
    · rw [decide_eq_true q] at e1
      refine ⟨true, e1, fun _ a _ => ?_, fun z => Bool.noConfusion z⟩
      rw [q, List.lookup_cons_self] at h
      exact rt s h
    · rw [decide_eq_false q] at e1
      refine ⟨false, e1, fun z => Bool.noConfusion z, fun _ => ?_⟩
      have qb : (e.c == C) = false := beq_eq_false_iff_ne.mpr q
      rw [List.lookup_cons, qb] at h
      exact many_sim rfl rt r (fun C' hC' => ex C' (List.mem_cons_of_mem _ hC')) h
theorem ls_tryM {body : List Stmt} {h₀ : ExceptHandler} {hds : List ExceptHandler} {cl : List (Addr × Str)} {l : List (Value × (Addr → Value → Option Addr → TS))} {pos : Pos} {b : LTS} (hs : X.stack = X.env :: X.outer) (hf : X.env.frame = some X.env.locals)
    (hb : ∀ (pn : List (Addr × Obj)) (xe : Value → Shared → Prop), PassesOwn (model X.prog X.w) X.A X.env xe → LSs (X.tr pn xe) body b) (hh : Cls6 X (h₀ :: hds) cl l)
    (hx : ∀ c ∈ cl.map (·.1), ∀ C ∈ cl.map (·.1), PySem.W.exmOne X.K (.ref c) (.ref C) = some (decide (c = C))) : LS X (.Try body (h₀ :: hds) [] [] pos) (sTryM b cl) := fun W tk => by
  refine ps_weak (L2N.ps_try_many (tb := fun W' => upS X.K W' b) hs hf tk (fun W' pn xe tk' hp => hb pn xe hp W' tk') hh.ok) fun D σ H h => ?_
  obtain ⟨σl, L, Dl, rh, rs, sd, h⟩ := h
  refine ⟨σl, L, { Dl with ex := fun e L1 => match cl.lookup e.c with
    | some s => Dl.rt (.str s) L1
    | none => False }, rh, rs, ⟨sd.nx, sd.rt, sd.bk, sd.ct, fun e L' cls d σ' H' r y rx q => ?_⟩, h⟩
  have hm : e.c ∈ cl.map (·.1) := by
    have key : ∀ cl : List (Addr × Str), (match cl.lookup e.c with
      | some s => Dl.rt (.str s) L'
      | none => False) → e.c ∈ cl.map (·.1) := fun cl => by
      induction cl with
      | nil => intro z; exact z.elim
      | cons p cl ih =>
        intro z
        rw [List.lookup_cons] at z
        cases c : e.c == p.1 with
        | true =>
          rw [eq_of_beq c]
          exact List.mem_cons_self
        | false =>
          rw [c] at z
          exact List.mem_cons_of_mem _ (ih z)
    exact key cl q
  exact many_sim (Rt := Dl.rt) (L' := L') rx.1 (fun s qs => sd.rt (.str s) L' _ H' r y rfl qs) hh (hx _ hm) q
/-! a if c else b, as a test -/
def xIfT (c d e : LTT) : LTT := fun σ L Q E => c σ L (fun b L1 => match b with
  | true => d σ L1 Q E
  | false => e σ L1 Q E) E
def MidT (K : PySem.W.Frag) (L : LHp) (H : Hp) (q : Bool → LHp → Prop) (b : Bool) (H1 : Hp) : Prop := ∃ L1, RH K L1 H1 ∧ Ext L H L1 H1 ∧ q b L1
theorem lt_if {e e1 e2 : Expr} {pos : Pos} {c d1 d2 : LTT} (hc : LT X e c) (h1 : LT X e1 d1) (h2 : LT X e2 d2) : LT X (.IfExp e e1 e2 pos) (xIfT c d1 d2) := fun W tk => by
  refine ⟨fun pins s σ H Q I h => ?_⟩
  obtain ⟨σl, L, Ql, El, rh, rs, sb, sx, h⟩ := h
  refine isTrue_IfExp (thn ((hc W tk).run pins s σ H (MidT X.K L H fun b L1 => match b with
    | true => d1 σl L1 Ql El
    | false => d2 σl L1 Ql El) I ⟨σl, L, _, El, rh, rs, fun b L1 H1 r1 y1 q => ⟨L1, r1, y1, q⟩, sx, h⟩) fun b s1 hh => ?_)
  obtain ⟨H1, I1, L1, r1, y1, q⟩ := hh
  cases b with
  | true => exact (h1 W tk).run pins s1 σ H1 _ I1 ⟨σl, L1, Ql, El, r1, rs.ext y1, sb.ext y1, sx.ext y1, q⟩
  | false => exact (h2 W tk).run pins s1 σ H1 _ I1 ⟨σl, L1, Ql, El, r1, rs.ext y1, sb.ext y1, sx.ext y1, q⟩
end
end LK
set_option Elab.async false
set_option linter.all false
set_option maxRecDepth 100000
set_option maxHeartbeats 2000000
/-! Rules: dict(pairs), sorted(pairs). -/
namespace LK
open PySem PySem.Spec PyProof.Rows L2
section
variable {X : Cx} {K : PySem.W.Frag} {L : LHp} {H : Hp}
/-- a list of pairs, the first of each a key -/
def prsOf : List LV → Option (List (Key × LV))
  | [] => some []
  | .tup [a, b] :: r => match lKey a, prsOf r with
    | some k, some kvs => some ((k, b) :: kvs)
    | _, _ => none
  | _ :: _ => none
theorem prsOf_sim : ∀ {ls : List LV} {xs : List V} {kvs : List (Key × LV)}, RVs K L H ls xs → prsOf ls = some kvs → ∃ (ps : List Addr) (ys : List (Key × V)), xs = ps.map V.ref ∧ Paired (fun p kv => SqT K H p [kV kv.1, kv.2]) ps ys ∧ RKV K L H kvs ys
  | [], xs, kvs, r, e => by
    unfold RVs at r
    have e' : ([] : List (Key × LV)) = kvs := Option.some.inj e
    rw [r, ← e']
    exact ⟨[], [], rfl, .nil, rfl⟩
  | l :: ls, xs, kvs, r, e => by
    unfold RVs at r
    obtain ⟨y, q, rfl, h1, h2⟩ := r
    unfold prsOf at e
    split at e
    · rename_i hnil; cases hnil
    · rename_i a b r' heq
      obtain ⟨e1, e2⟩ := List.cons.inj heq
      subst e1 e2
      cases e3 : lKey a with
      | none => simp only [e3] at e; cases e
      | some k =>
        cases e4 : prsOf ls with
        | none => simp only [e3, e4] at e; cases e
        | some kvs' =>
          simp only [e3, e4] at e
          have e' : (k, b) :: kvs' = kvs := Option.some.inj e
          obtain ⟨ps, ys, q1, q2, q3⟩ := prsOf_sim h2 e4
          obtain ⟨p, zs, rfl, f, rz⟩ := h1.tup_inv
          obtain ⟨z1, z2, rfl, ra, rb⟩ := rz.two
          rw [lKey_sim e3 ra] at f
          rw [← e']
          exact ⟨p :: ps, (k, z2) :: ys, by rw [q1]; rfl, .cons f.sq q2, .cons rb q3⟩
    · cases e
def lDictP : LC := fun as L Q => match as with
  | [a] => match lstOf L a with
    | some ls => match prsOf ls with
      | some kvs => newD (.dct (mg [] kvs)) L Q
      | none => False
    | none => False
  | _ => False
theorem c_dictP (hc : X.calm = true) : CallL X (.type "dict") lDictP := ⟨_, call_dictP hc, fun L H as xs Ql Q rh ras s h => by
  unfold lDictP at h
  split at h
  · rename_i a
    obtain ⟨x, rfl, ra⟩ := ras.one
    cases e1 : lstOf L a with
    | none => simp only [e1] at h
    | some ls =>
      simp only [e1] at h
      cases e2 : prsOf ls with
      | none => simp only [e2] at h
      | some kvs =>
        simp only [e2] at h
        obtain ⟨p, xs, rfl, hx, rx⟩ := lstOf_sim rh ra e1
        obtain ⟨ps, ys, rfl, q2, q3⟩ := prsOf_sim rx e2
        refine ⟨p, ps, ys, rfl, SqL.of hx, q2, fun t ht => ?_⟩
        exact s (.ref t) _ _ _ (rh.new (lo := .dct (mg [] kvs)) ht ⟨_, rfl, RKV.merge q3 .nil⟩) (Ext.new rh ht) rfl (h t (rh.fresh ht))
  · exact h.elim⟩
/-! sorted of pairs of ints -/
def ipsOf : List LV → Option (List (Int × Int))
  | [] => some []
  | .tup [.int a, .int b] :: r => (ipsOf r).map fun ps => (a, b) :: ps
  | _ :: _ => none
def ipL (p : Int × Int) : LV := .tup [.int p.1, .int p.2]
theorem ipsOf_map : ∀ ps : List (Int × Int), ipsOf (ps.map ipL) = some ps
  | [] => rfl
  | p :: ps => by
    show (ipsOf (ps.map ipL)).map _ = _
    rw [ipsOf_map ps]; rfl
def pairAt (H : Hp) (x : V) : Int × Int := match x with
  | .ref t => match H t with
    | some (.tup [.int i, .int j]) => (i, j)
    | _ => (0, 0)
  | _ => (0, 0)
theorem ipsOf_sim : ∀ {ls : List LV} {xs : List V} {ps : List (Int × Int)}, RVs K L H ls xs → ipsOf ls = some ps → xs.map (pairAt H) = ps ∧ ∀ x ∈ xs, ∃ t, x = V.ref t ∧ FzT L H t [.int (pairAt H x).1, .int (pairAt H x).2]
  | [], xs, ps, r, e => by
    unfold RVs at r
    have e' : ([] : List (Int × Int)) = ps := Option.some.inj e
    rw [r, ← e']
    exact ⟨rfl, fun x hx => by cases hx⟩
  | l :: ls, xs, ps, r, e => by
    unfold RVs at r
    obtain ⟨y, q, rfl, h1, h2⟩ := r
    unfold ipsOf at e
    split at e
    · rename_i hnil; cases hnil
    · rename_i a b r' heq
      obtain ⟨e1, e2⟩ := List.cons.inj heq
      subst e1 e2
      obtain ⟨qs, e3, e4⟩ := Option.map_eq_some_iff.mp e
      obtain ⟨q1, q2⟩ := ipsOf_sim h2 e3
      obtain ⟨p, zs, rfl, f, rz⟩ := h1.tup_inv
      obtain ⟨z1, z2, rfl, ra, rb⟩ := rz.two
      rw [ra.int_inv, rb.int_inv] at f
      have ep : pairAt H (V.ref p) = (a, b) := by
        unfold pairAt
        simp only [f.2]
      refine ⟨by rw [List.map_cons, q1, ep, ← e4], fun x hx => ?_⟩
      rcases List.mem_cons.mp hx with rfl | hx
      · exact ⟨p, rfl, by rw [ep]; exact f⟩
      · exact q2 x hx
    · cases e
theorem ips_back : ∀ (ys : List V), (∀ x ∈ ys, ∃ t, x = V.ref t ∧ FzT L H t [.int (pairAt H x).1, .int (pairAt H x).2]) → RVs K L H ((ys.map (pairAt H)).map ipL) ys
  | [], _ => .nil
  | y :: ys, h => by
    obtain ⟨t, e, f⟩ := h y List.mem_cons_self
    refine .cons ?_ (ips_back ys fun x hx => h x (List.mem_cons_of_mem _ hx))
    rw [e] at f ⊢
    exact .of_tup f (.cons rfl (.cons rfl .nil))
def lSortP (fr : Bool) : LC := fun as L Q => match as with
  | [a] => match lstOf L a with
    | some ls => match ipsOf ls with
      | some ps => ∀ qs : List (Int × Int), qs.Perm ps → qs.Pairwise (fun p q => SrtO.lexB q p = false) → newL fr (qs.map ipL) L Q
      | none => False
    | none => False
  | _ => False
theorem c_sortP {fr : Bool} : CallL X (.builtin "sorted") (lSortP fr) := ⟨_, cr_sortedPO, fun L H as xs Ql Q rh ras s h => by
  unfold lSortP at h
  split at h
  · rename_i a
    obtain ⟨x, rfl, ra⟩ := ras.one
    cases e1 : lstOf L a with
    | none => simp only [e1] at h
    | some ls =>
      simp only [e1] at h
      cases e2 : ipsOf ls with
      | none => simp only [e2] at h
      | some ps =>
        simp only [e2] at h
        obtain ⟨p, xs, rfl, hx, rx⟩ := lstOf_sim rh ra e1
        obtain ⟨q1, q2⟩ := ipsOf_sim rx e2
        refine ⟨p, xs, pairAt H, rfl, SqL.of hx, fun x hx => let ⟨t, e, f⟩ := q2 x hx; ⟨t, e, f.2⟩, fun ys t srt stb ht => ?_⟩
        have pm : ys.Perm xs := stb.perm
        refine newL_sim rh s (ips_back ys fun x hx => q2 x (pm.mem_iff.mp hx)) (h (ys.map (pairAt H)) ?_ ?_) t ht
        · rw [← q1]
          exact pm.map _
        · exact List.pairwise_map.mpr srt
  · exact h.elim⟩
/-! sorted of ints -/
def intsOf : List LV → Option (List Int)
  | [] => some []
  | .int a :: r => (intsOf r).map fun ps => a :: ps
  | _ :: _ => none
theorem intsOf_eq : ∀ {ls : List LV} {ns : List Int}, intsOf ls = some ns → ls = ns.map LV.int
  | [], ns, e => by
    have e' : ([] : List Int) = ns := Option.some.inj e
    rw [← e']; rfl
  | l :: ls, ns, e => by
    unfold intsOf at e
    split at e
    · rename_i hnil; cases hnil
    · rename_i a r heq
      obtain ⟨e1, e2⟩ := List.cons.inj heq
      subst e1 e2
      obtain ⟨qs, e3, e4⟩ := Option.map_eq_some_iff.mp e
      rw [← e4, intsOf_eq e3]; rfl
    · cases e
theorem intsOf_map : ∀ ns : List Int, intsOf (ns.map LV.int) = some ns
  | [] => rfl
  | n :: ns => by
    show (intsOf (ns.map LV.int)).map _ = _
    rw [intsOf_map ns]; rfl
def lSortI (fr : Bool) : LC := fun as L Q => match as with
  | [a] => match lstOf L a with
    | some ls => match intsOf ls with
      | some ns => ∀ ms : List Int, ms.Perm ns → ms.Pairwise (· ≤ ·) → newL fr (ms.map LV.int) L Q
      | none => False
    | none => False
  | _ => False
theorem c_sortI {fr : Bool} : CallL X (.builtin "sorted") (lSortI fr) := ⟨_, cr_sortedI, fun L H as xs Ql Q rh ras s h => by
  unfold lSortI at h
  split at h
  · rename_i a
    obtain ⟨x, rfl, ra⟩ := ras.one
    cases e1 : lstOf L a with
    | none => simp only [e1] at h
    | some ls =>
      simp only [e1] at h
      cases e2 : intsOf ls with
      | none => simp only [e2] at h
      | some ns =>
        simp only [e2] at h
        obtain ⟨p, xs, rfl, hx, rx⟩ := lstOf_sim rh ra e1
        rw [intsOf_eq e2] at rx
        rw [rx.ints] at hx
        exact ⟨p, ns, rfl, SqL.of hx, fun ms t h1 h2 ht => newL_sim rh s .of_ints (h ms h1 h2) t ht⟩
  · exact h.elim⟩
end
/-- what is known of an exception's class -/
structure ExF (K : PySem.W.Frag) (mg : Str → Option Value) (x : Str) (C : Addr) : Prop where
  q : PySem.W.excIn K C [.type "ValueError", .type "Exception", .type "BaseException", .type "object"] "ValueError.__new__" = true
  g : mg x = some (.ref C)
  k : PySem.W.keepIn K (.ref C) = true
  s : PySem.W.subIn K (.ref C) (.type "BaseException") = some true
  t : PySem.W.typeIn K (.ref C) = some (.type "type")
theorem ExF.r {K : PySem.W.Frag} {mg : Str → Option Value} {x : Str} {C : Addr} (e : ExF K mg x C) {X : Cx} (hK : X.K = K := by rfl) : Raises X (.ref C) := by
  subst hK
  exact raises_own e.s e.t
/-- the classes' addresses -/
structure GA where
  cW : Addr
  cN : Addr
  eTooMany : Addr
  eNoKind : Addr
  eNoDeed : Addr
  eNoBody : Addr
  eRing : Addr
  eBadSpots : Addr
  eBadWide : Addr
  eBadRule : Addr
  eNoSpot : Addr
  eBadText : Addr
  eLookError : Addr
end LK
set_option Elab.async false
set_option linter.all false
set_option maxRecDepth 100000
set_option maxHeartbeats 2000000
/-! Rules: dict.update, list.remove, list.index of data. -/
namespace LK
open PySem PySem.Spec PyProof.Rows L2
section
variable {X : Cx}
def rUpd : V → List V → Hp → VK → Prop := fun x xs H Q => ∃ a b kvs more, x = .ref a ∧ xs = [.ref b] ∧ H a = some (.dK kvs) ∧ H b = some (.dK more) ∧ a ≠ b ∧ kvs.length + more.length ≤ sizeLine ∧ Q .non (upd H a (.dK (mergeK kvs more)))
theorem mt_upd : MtR X "dict.update" rUpd := by
  intro pins s σ H x xs v us Q I rx rs h
  obtain ⟨a, b, kvs, more, rfl, rfl, e, e2, ne, hl, q⟩ := h
  obtain rfl : v = Value.ref a := rx
  obtain ⟨u, rfl, ru⟩ := vals1 rs
  obtain rfl : u = Value.ref b := ru
  obtain ⟨z, hd, vs, rel, dd⟩ := dk_of I.hok e
  obtain ⟨z2, hd2, ws, rel2, dd2⟩ := dk_of I.hok e2
  refine call_meetsIn PySem.F.slot_dict_update dd.typeIs PySem.F.entry_dict_update (PySem.F.args_dict_update_2 _ _) (meets_dict_update (mixKind X.prog X.w) a b ne hd2)
    ⟨vs, ws, dd, dd2, by rw [← rel.length, ← rel2.length]; exact hl, fun h' dd' _ hs => ?_⟩
  have he : ∃ q, h'.get? a = some q := let ⟨q, _, _, hq, _⟩ := dd'; ⟨q, hq⟩
  have hz : (mergeK kvs more).length ≤ sizeLine := Nat.le_trans (length_mergeK more kvs) hl
  exact ⟨.non, _, d_write I (by rw [e]; exact True.intro) hs he (dk_new hz hd (rel2.merge rel) dd'), rfl, q⟩
def lUpd : LM := fun a as L Q => match a, as with
  | .ref p, [.ref b] => match L p, L b with
    | some (.dct kvs), some (.dct more) => p ≠ b ∧ kvs.length + more.length ≤ sizeLine ∧ Q .non (lup L p (.dct (mg kvs more)))
    | _, _ => False
  | _, _ => False
theorem m_upd : MtL X "dict.update" lUpd := ⟨_, mt_upd, fun L H a as x xs Ql Q rh ra ras s h => by
  unfold lUpd at h
  split at h
  · rename_i p b
    obtain ⟨v, rfl, rv⟩ := ras.one
    split at h
    · rename_i kvs more q q2
      obtain ⟨ys, hy, ry⟩ := rh.dct q
      obtain ⟨zs, hz, rz⟩ := rh.dct q2
      refine ⟨p, b, ys, zs, ra.ref_inv, by rw [rv.ref_inv], hy, hz, h.1, by rw [ry.length, rz.length]; exact h.2.1, ?_⟩
      exact s .non _ _ _ (rh.upd (lo := .dct (mg kvs more)) (some_ne q) ⟨_, rfl, RKV.merge rz ry⟩) (Ext.upd (some_ne q)) rfl h.2.2
    · exact h.elim
  · exact h.elim⟩
/-- l.remove(x): the first that is equal -/
def rRemD (K : PySem.W.Frag) : V → List V → Hp → VK → Prop := fun x xs H Q => ∃ (a : Addr) (y : V) (d : PyData) (ds : List PyData) (vs : List V) (j : Nat) (z : PyData), x = V.ref a ∧ xs = [y] ∧ H a = some (.lst vs) ∧ DpAll K H vs ds ∧ Dp K H y d ∧
  SeqAt.shaped (.list ds) = true ∧ SeqAt.shaped d = true ∧ ds[j]? = some z ∧ PyData.eqv z d = true ∧ (∀ (m : Nat) (z' : PyData), m < j → ds[m]? = some z' → PyData.eqv z' d = false) ∧ Q .non (upd H a (.lst (vs.eraseIdx j)))
theorem mt_removeD (hu : X.A.units + 65 < cLine) : MtR X "list.remove" (rRemD X.K) := by
  intro pins s σ H x xs v us Q I rx rxs h
  obtain ⟨a, y, d, ds, vs, j, z, rfl, rfl, hH, ha, hy, sl, sd, hz, hzj, hno, q⟩ := h
  cases rx
  cases rxs with
  | cons ry rt =>
    rename_i uy ut
    cases rt
    obtain ⟨bs, r1⟩ := Dp.reads I d y uy hy ry
    have hxs : PyData.canLayAll0 ds = true := SeqAt.canLay_of_shaped sl
    have hroom : X.A.units + 1 + min (PyData.depthAll ds) d.depth < cLine := room_in_shaped sd hu
    obtain ⟨hlen, its, n, rv, hl0, ho⟩ := I.lstM hH
    obtain ⟨as, h4⟩ := Dp.readsAll I ds _ its ha rv
    have hn : its.length = ds.length := SeqAt.ReadsAll.length ds its as h4
    have hmap : its.map (SeqAt.readOf s.heap) = ds := SeqAt.readsAll_map ds its as hxs h4
    have hvl := rv.length
    have hsl := sizeLine_eq
    obtain ⟨hjd, _⟩ := List.getElem?_eq_some_iff.mp hz
    have hjl : j < its.length := by omega
    have hj : j < its.toArray.size := by simpa using hjl
    have at_ : ∀ (m : Nat) (hm : m < its.toArray.size) (z' : PyData), ds[m]? = some z' → SeqAt.readOf s.heap its.toArray[m] = z' := by
      intro m hm z' hz'
      have hml : m < its.length := by simpa using hm
      rw [← hmap, List.getElem?_map, List.getElem?_eq_getElem hml] at hz'
      have e1 : SeqAt.readOf s.heap its[m] = z' := Option.some.inj (show some (SeqAt.readOf s.heap its[m]) = some z' from hz')
      simpa using e1
    refine call_meets PySem.F.slot_list_remove ⟨_, ho, rfl⟩ PySem.F.entry_list_remove (PySem.F.args_list_remove_2 _ _)
      (SeqAt.list_removeAt a its.toArray n _ _ uy (fun u => PyData.eqv (SeqAt.readOf s.heap u) d) j hj ?_ ?_ (by simp; omega)) ⟨ho, SeqAt.items_eqAt (vs := its.toArray) (show ReadsAll s.heap its.toArray.toList ds as from h4) r1 hxs (SeqAt.canLay_of_shaped sd) hroom, ?_⟩
    · show PyData.eqv (SeqAt.readOf s.heap its.toArray[j]) d = true
      rw [at_ j hj z hz]
      exact hzj
    · intro m hm hmj
      have hmd : m < ds.length := by omega
      have hz' : ds[m]? = some ds[m] := List.getElem?_eq_getElem hmd
      show PyData.eqv (SeqAt.readOf s.heap its.toArray[m]) d = false
      rw [at_ m hm _ hz']
      exact hno m _ hmj hz'
    · have rr := rv.eraseIdx j
      refine ⟨.non, _, I.lset (its' := its.eraseIdx j) (t' := s.toks) hH ho ?_ rr ?_, rfl, q⟩
      · show its.toArray.eraseIdxIfInBounds j = (its.eraseIdx j).toArray
        rw [List.eraseIdxIfInBounds_toArray]
      · have z2 : (vs.eraseIdx j).length ≤ vs.length := List.length_eraseIdx_le vs j
        omega
def lRemove : LM := fun a as L Q => match a, as with
  | .ref p, [y] => match L p with
    | some (.lst ls) => ∃ d ds j z, y.dat = some d ∧ datAll ls = some ds ∧ SeqAt.shaped (.list ds) = true ∧ SeqAt.shaped d = true ∧ ds[j]? = some z ∧ PyData.eqv z d = true ∧ (∀ (m : Nat) (z' : PyData), m < j → ds[m]? = some z' → PyData.eqv z' d = false) ∧ Q .non (lup L p (.lst (ls.eraseIdx j)))
    | _ => False
  | _, _ => False
theorem m_remove (hu : X.A.units + 65 < cLine) : MtL X "list.remove" lRemove := ⟨_, mt_removeD hu, fun L H a as x xs Ql Q rh ra ras s h => by
  unfold lRemove at h
  split at h
  · rename_i p y
    obtain ⟨v, rfl, rv⟩ := ras.one
    split at h
    · rename_i ls q
      obtain ⟨d, ds, j, z, h1, h2, h3, h4, h5, h6, h7, h8⟩ := h
      obtain ⟨ys, hy, ry⟩ := rh.lst q
      refine ⟨p, v, d, ds, ys, j, z, ra.ref_inv, rfl, hy, datAll_dp ls ds ys h2 ry, dat_dp y d v h1 rv, h3, h4, h5, h6, h7, ?_⟩
      exact s .non _ _ _ (rh.upd (lo := .lst (ls.eraseIdx j)) (some_ne q) ⟨_, rfl, ry.eraseIdx j⟩) (Ext.upd (some_ne q)) rfl h8
    · exact h.elim
  · exact h.elim⟩
end
end LK
set_option Elab.async false
set_option linter.all false
set_option maxRecDepth 100000
set_option maxHeartbeats 2000000
/-! count, index; what is asked of a caught refusal. -/
namespace LK
open PySem PySem.Spec PyProof.Rows L2
section
variable {X : Cx}
/-- l.count(x) -/
def rCountD (K : PySem.W.Frag) : V → List V → Hp → VK → Prop := fun x xs H Q => ∃ (y : V) (d : PyData) (ds : List PyData), xs = [y] ∧ Dp K H x (.list ds) ∧ Dp K H y d ∧ SeqAt.shaped (.list ds) = true ∧ SeqAt.shaped d = true ∧ Q (.int (ds.countP fun z => PyData.eqv z d : Nat)) H
theorem mt_countD (hu : X.A.units + 65 < cLine) : MtR X "list.count" (rCountD X.K) := by
  intro pins s σ H x xs v us Q I rx rxs h
  obtain ⟨y, d, ds, rfl, hl, hy, sl, sd, q⟩ := h
  cases rxs with
  | cons ry rt =>
    rename_i uy ut
    cases rt
    obtain ⟨bs, r1⟩ := Dp.reads I d y uy hy ry
    have lay : PyData.canLayAll0 ds = true := SeqAt.canLay_of_shaped sl
    have room : X.A.units + 1 + min (PyData.depthAll ds) d.depth < cLine := room_in_shaped sd hu
    cases hl with
    | lst hs ha =>
      cases rx
      obtain ⟨its, rv, ⟨⟨cls, dd, data, sls⟩, n, ho, hc, hdn, hdt⟩, hlen⟩ := I.list hs
      simp only at hc hdt
      subst hc hdt
      obtain ⟨as, h4⟩ := Dp.readsAll I ds _ its ha rv
      have em : its.map (SeqAt.readOf s.heap) = ds := SeqAt.readsAll_map ds its as lay h4
      have ec : its.toArray.toList.countP (fun u => PyData.eqv (SeqAt.readOf s.heap u) d) = ds.countP fun z => PyData.eqv z d := by
        rw [← em, List.countP_map]
        rfl
      refine call_meets PySem.F.slot_list_count ⟨_, ho, rfl⟩ PySem.F.entry_list_count (PySem.F.args_list_count_2 _ _) (SeqAt.list_countAt _ its.toArray n dd sls uy fun u => PyData.eqv (SeqAt.readOf s.heap u) d)
        ⟨ho, SeqAt.items_eqAt (vs := its.toArray) (show ReadsAll s.heap its.toArray.toList ds as from h4) r1 lay (SeqAt.canLay_of_shaped sd) room, ?_⟩
      rw [ec]
      exact ⟨.int (ds.countP fun z => PyData.eqv z d : Nat), H, I.tok _, ⟨_, rfl⟩, q⟩
def lCount : LM := fun a as L Q => match as with
  | [y] => ∃ d ds, y.dat = some d ∧ datOf L a = some (.list ds) ∧ SeqAt.shaped (.list ds) = true ∧ SeqAt.shaped d = true ∧ Q (.int (ds.countP fun z => PyData.eqv z d : Nat)) L
  | _ => False
theorem m_count (hu : X.A.units + 65 < cLine) : MtL X "list.count" lCount := ⟨_, mt_countD hu, fun L H a as x xs Ql Q rh ra ras s h => by
  unfold lCount at h
  split at h
  · rename_i y
    obtain ⟨v, rfl, rv⟩ := ras.one
    obtain ⟨d, ds, h1, h2, h3, h4, h5⟩ := h
    exact ⟨v, d, ds, rfl, datOf_dp rh h2 ra, dat_dp _ _ _ h1 rv, h3, h4, s (.int (ds.countP fun z => PyData.eqv z d : Nat)) L _ _ rh .refl rfl h5⟩
  · exact h.elim⟩
def lIndex : LM := fun a as L Q => match as with
  | [y] => ∃ d ds j z, y.dat = some d ∧ datOf L a = some (.list ds) ∧ SeqAt.shaped (.list ds) = true ∧ SeqAt.shaped d = true ∧ ds[j]? = some z ∧ PyData.eqv z d = true ∧ (∀ (m : Nat) (z' : PyData), m < j → ds[m]? = some z' → PyData.eqv z' d = false) ∧ Q (.int (j : Nat)) L
  | _ => False
theorem m_index (hu : X.A.units + 65 < cLine) : MtL X "list.index" lIndex := ⟨_, mt_indexD hu, fun L H a as x xs Ql Q rh ra ras s h => by
  unfold lIndex at h
  split at h
  · rename_i y
    obtain ⟨v, rfl, rv⟩ := ras.one
    obtain ⟨d, ds, j, z, h1, h2, h3, h4, h5, h6, h7, h8⟩ := h
    have dx := datOf_dp rh h2 ra
    have dx' := dx
    cases dx with
    | lst hs ha => exact ⟨_, v, d, ds, j, z, rfl, rfl, dx', dat_dp _ _ _ h1 rv, h3, h4, h5, h6, h7, s (.int (j : Nat)) L _ _ rh .refl rfl h8⟩
  · exact h.elim⟩
/-- a class, told by its name -/
theorem le_gref {n : Str} {C : Addr} {pos : Pos} (hm : X.mg n = some (.ref C)) (hg : Gl X n := by rfl) (hd : (n == ("__debug__" : Str)) = false := by decide) : LE X (.Name n pos) (xC (.ref C)) := le_c (pe_glob hg hm (v := .ref C) rfl hd) fun _ _ => rfl
/-! ### isinstance of the refusal that is handled -/
theorem callIsE {p : Addr × Obj} {D : Addr} (C : ExcC X.K D) (hp : p ∈ X.pn) (hc : p.2.cls = .ref D) (hd : p.2.dict = none) (hf : ∃ vs, p.2.data = .fields vs) : CallR X (.builtin "isinstance") (rIsE X.K D p.1) := by
  intro ps s σ H xs us Q I r h
  obtain ⟨c, cv, b, rfl, same, e, q⟩ := h
  cases r with
  | cons rx rr =>
    cases rr with
    | cons rt rr =>
      cases rr
      cases rx
      have ec := same _ rt
      subst ec
      obtain ⟨a, oe⟩ := p
      obtain ⟨got, _⟩ := I.pin (a, oe) (List.mem_append_left _ hp)
      obtain ⟨vs, hv⟩ := hf
      obtain ⟨oc, od, oda, osl⟩ := oe
      dsimp only at hc hd hv
      subst hc hd hv
      have J : PySem.W.InstAt s.heap a ⟨.ref D, none, .fields vs, osl⟩ D none := ⟨got, rfl, rfl, trivial⟩
      exact PySem.W.kia_one (PySem.W.handS_kitx_exc C.hg C.hk C.hs C.hd C.ha C.hn C.ht C.hm) I.kIn J e nofun fun tk => ⟨.bl b, H, I.kept (t' := tk) fun _ _ z => z, rfl, q⟩
def clsV : LV → Option Value
  | .ref c => some (.ref c)
  | .ty t => some (.type t)
  | _ => none
def lIsE (K : PySem.W.Frag) (D a : Addr) : LC := fun as L Q => match as with
  | [.ref b, c] => b = a ∧ ∃ cv r, clsV c = some cv ∧ PySem.W.kitOne K (.ref D) cv = some r ∧ Q (.bl r) L
  | _ => False
theorem c_isE {p : Addr × Obj} {D : Addr} (C : ExcC X.K D) (hp : p ∈ X.pn) (hc : p.2.cls = .ref D) (hd : p.2.dict = none) (hf : ∃ vs, p.2.data = .fields vs) : CallL X (.builtin "isinstance") (lIsE X.K D p.1) := ⟨_, callIsE C hp hc hd hf, fun L H as xs Ql Q rh ras s h => by
  unfold lIsE at h
  split at h
  · rename_i b c
    obtain ⟨x, y, rfl, rx, ry⟩ := ras.two
    obtain ⟨rfl, cv, r, h1, h2, h3⟩ := h
    rw [rx.ref_inv]
    refine ⟨y, cv, r, rfl, fun u ru => ?_, h2, s (.bl r) L _ _ rh .refl rfl h3⟩
    cases c with
    | ref c =>
      rw [ry.ref_inv] at ru
      have e : some (Value.ref c) = some cv := h1
      cases e
      exact ru
    | ty t =>
      have ey : y = V.ty t := ry
      rw [ey] at ru
      have e : some (Value.type t) = some cv := h1
      cases e
      exact ru
    | _ => cases h1
  · exact h.elim⟩
end
end LK
set_option Elab.async false
set_option linter.all false
set_option maxRecDepth 100000
set_option maxHeartbeats 2000000
/-! try: .. except LookError as e: return _law_name(e). -/
namespace LK
open PySem PySem.Spec PyProof.Rows L2
def nmB (cl : List Addr) (is : LC) : LTS :=
  let t : Nat → LTE := fun i => xCB is (xCons (xVar 0) (xCons (xC (.ref (cl[i]?.getD 0))) xNil))
  sSeq (sAsg (xLst true (xCons (t 0) (xCons (t 1) (xCons (t 2) (xCons (t 3) xNil))))) (gNm 1))
  (sSeq (sAsg (xBin (lCat true) (xVar 1) (xLst true (xCons (t 4) (xCons (t 5) (xCons (t 6) (xCons (t 7) xNil)))))) (gNm 1))
  (sSeq (sAsg (xBin (lCat true) (xVar 1) (xLst true (xCons (t 8) (xCons (t 9) xNil)))) (gNm 1))
  (sSeq (sAsg (xLst true (xCons (xC (.str "TooMany")) (xCons (xC (.str "NoKind")) (xCons (xC (.str "NoDeed")) (xCons (xC (.str "NoBody")) (xCons (xC (.str "Ring")) (xCons (xC (.str "BadSpots")) (xCons (xC (.str "BadWide")) (xCons (xC (.str "BadRule")) (xCons (xC (.str "NoSpot")) (xCons (xC (.str "BadText")) xNil))))))))))) (gNm 2))
  (sRet (xIf (xAndT (xTest (xBin (lEq false) (xMt "list" lCount (xVar 1) (xCons (xC (.bl true)) xNil)) (xC (.int 1)))) (xTest (xCB is (xCons (xVar 0) (xCons (xC (.ty "ValueError")) xNil))))) (xBin lIx (xVar 2) (xMt "list" lIndex (xVar 1) (xCons (xC (.bl true)) xNil))) (xC (.str "other")))))))
/-- the refusal's context where it is asked -/
structure AskOk (K : PySem.W.Frag) (A : Around) (p : Addr × Obj) (C : Addr) : Prop where
  hot : L2H.Hot1 A p
  cls : p.2.cls = .ref C
  dct : p.2.dict = none
/-- the namer: its promise -/
structure NmOk (P : Program) (w : World) (K : PySem.W.Frag) (mg : Str → Option Value) (base : Heap) (k : Nat) (CL : Addr) (tbl : List (Addr × Str)) : Prop where
  fn : ∃ (f : Addr) (fd : FuncData) (q : Str), mg ("_law_name" : Str) = some (.ref f) ∧ PySem.W.keepIn K (.ref f) = true ∧ Binds K fd [q] [] ∧
    ∀ (A : Around) (outer : List Env) (s : Shared) (H : Hp) (args : Args) (Q : VK) (p : Addr × Obj) (C : Addr) (nm : Str) (L : LHp), RH K L H → L2H.RoomH k A → AskOk K A p C → tbl.lookup C = some nm → L2H.PinOk outer H s p → Env0 P w K mg base A outer s H →
      BindsTo s fd args ([q].zip [.ref p.1]) → (∀ H', RH K L H' → Ext L H L H' → Q (.str nm) H') → codeAny (model P w) A (.call (.ref f) args) (CR (L2N.CX P w) outer P w H s Q fun _ _ _ => False) s
  ex : ∀ C nm, tbl.lookup C = some nm → PySem.W.exmOne K (.ref C) (.ref CL) = some true
  look : mg ("LookError" : Str) = some (.ref CL)
section
variable {P : Program} {w : World} {K : PySem.W.Frag} {mg : Str → Option Value} {base : Heap} {k : Nat} {CL : Addr} {tbl : List (Addr × Str)}
theorem nm_run {x qual q : Str} {params : Arguments} {body : List Stmt} {scope : Scope} {f : Addr} {fd : FuncData} {N : List Str} {cl : List Addr} (F : FunD K x qual params body scope [] [] f fd) (S : FnScope N [q] scope) (hN : N.length = 3)
    (hbody : ∀ (cdv : Value) (A : Around) (outer : List Env) (s : Shared) (H : Hp) (p : Addr × Obj) (C : Addr) (nm : Str), AskOk K A p C → tbl.lookup C = some nm → L2H.RoomH k (A.deeper (envOfC qual scope s.heap.objs.size f cdv)) → LSs (L2H.cxH (L2N.CX P w) P w K mg base N qual scope f cdv A outer s H (fun _ _ _ => False) p) body (nmB cl (lIsE K C p.1)))
    (hsem : ∀ C nm a (L : LHp), tbl.lookup C = some nm → nmB cl (lIsE K C a) { nx := fun _ _ => False, rt := fun v L' => v = .str nm ∧ L' = L, bk := fun _ _ => False, ct := fun _ _ => False, ex := fun _ _ => False } [some (.ref a), none, none] L)
    {A : Around} {outer : List Env} {s : Shared} {H : Hp} {args : Args} {Q : VK} {p : Addr × Obj} {C : Addr} {nm : Str} {L : LHp} (rh : RH K L H) (hr : L2H.RoomH (k + 1) A) (ask : AskOk K A p C) (hC : tbl.lookup C = some nm) (pin : L2H.PinOk outer H s p) (e0 : Env0 P w K mg base A outer s H)
    (hb : BindsTo s fd args ([q].zip [.ref p.1])) (hQ : ∀ H', RH K L H' → Ext L H L H' → Q (.str nm) H') : codeAny (model P w) A (.call (.ref f) args) (CR (L2N.CX P w) outer P w H s Q fun _ _ _ => False) s := by
  obtain ⟨oc, od, dV, kV, doc, pm, an, cdv, ct, osl, rfl, lk, hcd, _, _⟩ := F.ex
  have kin : K.In s.heap := e0.mod.kin.keeps fun b o e => (e0.bs b o e).1
  have free : s.heap.NoLimit := e0.mod.nolimit.keeps fun b o e => (e0.bs b o e).1
  have rv : Vals [V.ref p.1] [Value.ref p.1] := .cons rfl .nil
  have kinds : ∀ y ∈ [q].zip [Value.ref p.1], scope.names.lookup y.1 = some .local ∨ (scope.names.lookup y.1 = some .cell ∧ ((cellsFrom (s.heap.objs.size + 1) scope.names []).lookup y.1).isSome = true) := by
    rintro ⟨z, v⟩ hy
    exact (S.par z (List.of_mem_zip hy).1).imp id fun c => ⟨c, PySem.W.cellsFrom_some _ _ _ (.inl c)⟩
  refine codeAny_call_function hr.depth (kin _ _ lk) rfl S.co S.gen rfl (PySem.W.codeRec_of kin hcd) (hb _ _ _ _ (wpAny_newFunctionEnv_cells S.kind kinds fun env he s1 x => ?_))
  subst he
  refine ⟨free.keeps x.toInCall.keep, codeAny_func ?_⟩
  have inv := L2H.inv_startH (CX := L2N.CX P w) (E := fun _ _ _ => False) (cd := cdv) (vs := [V.ref p.1]) S pin e0 rfl rv x
  have tk : L2N.Takes (L2H.cxH (L2N.CX P w) P w K mg base N qual scope f cdv A outer s H (fun _ _ _ => False) p) (fun _ _ _ _ => False) := takes0N
  have ps := hbody cdv A outer s H p C nm ask hC (hr.deeper _) _ tk
  have sm := hsem C nm p.1 L hC
  have st : startL N.length [LV.ref p.1] = [some (.ref p.1), none, none] := by
    unfold startL
    rw [hN]
    rfl
  have up : upS K (fun _ _ _ _ => False) (nmB cl (lIsE K C p.1)) { nx := fun _ H' => Q .non H', rt := Q } (L2.start N [V.ref p.1]) H := by
    refine ⟨[some (.ref p.1), none, none], L, { nx := fun _ _ => False, rt := fun v L' => v = .str nm ∧ L' = L, bk := fun _ _ => False, ct := fun _ _ => False, ex := fun _ _ => False }, rh, ?_, ⟨fun _ _ _ _ _ _ _ z => z.elim, fun l L' v H' rh' y rr e => ?_, fun _ _ _ _ _ _ _ z => z.elim, fun _ _ _ _ _ _ _ z => z.elim, fun _ _ _ _ _ _ _ _ _ z => z.elim⟩, sm⟩
    · rw [← st]
      exact RS.start (.cons rfl .nil)
    · obtain ⟨rfl, rfl⟩ := e
      rw [rr.str_inv]
      exact hQ H' rh' y
  refine wpAny_mono (ps.run [] s1 (L2.start N [V.ref p.1]) H _ inv up) (fun fl s' hs => ?_) fun e s' hs => hs
  have fin : ∀ {σ' : L2.St} {H' : Hp} {v : V} {u : Value}, Inv (L2H.cxH (L2N.CX P w) P w K mg base N qual scope f cdv A outer s H (fun _ _ _ => False) p) [] σ' H' s' → L2.RelV v u → Q v H' → CE outer P w H s Q u s' := fun J r z => ⟨_, _, J.os, J.bare, J.base, J.hok, r, z⟩
  cases fl with
  | ret u =>
    obtain ⟨v, σ', H', J, r, z⟩ := hs
    exact fin J r z
  | next =>
    obtain ⟨σ', H', J, z⟩ := hs
    exact fin (v := V.non) (u := Value.none) J rfl z
  | brk =>
    obtain ⟨_, _, _, z⟩ := hs
    exact z.elim
  | cont =>
    obtain ⟨_, _, _, z⟩ := hs
    exact z.elim
end
/-! ### the rule -/
def sTryN (tbl : List (Addr × Str)) (b : LTS) : LTS := fun D σ L => b { D with ex := fun e L1 => match tbl.lookup e.c with
  | some s => e.row = none ∧ D.rt (.str s) L1
  | none => False } σ L
section
variable {X : Cx} {k : Nat} {CL : Addr} {tbl : List (Addr × Str)}
theorem call_nm {n : Str} {i : Nat} {a C : Addr} {oe : Obj} {pn : List (Addr × Obj)} {q p2 pos : Pos} {nm : Str} (M : NmOk X.prog X.w X.K X.mg X.base k CL tbl) (hr : Room k X.A) (hC : tbl.lookup C = some nm) (hz : L2N.Zn (.ref C) none oe) (hf : ∃ vs, oe.data = .fields vs)
    (hi : X.N[i]? = some n) (hln : X.env.kindOf n = some .local) (hg : Gl X "_law_name") (hd : (n == ("__debug__" : Str)) = false := by decide) (hcd : (n == ("__classdict__" : Str)) = false := by decide) :
    PE (X.suite a ((a, oe) :: pn)) (.Call (.Name "_law_name" q) [.Name n p2] [] pos) (fun σ H Q => σ[i]? = some (some (.ref a)) ∧ ∃ L, RH X.K L H ∧ ∀ H', RH X.K L H' → Ext L H L H' → Q (.str nm) H') := by
  obtain ⟨⟨f, fd, pq, gm, kp, hb, run⟩, _, _⟩ := M
  refine ⟨fun pins s σ H Q I h => ?_⟩
  obtain ⟨hs, L, rh, hQ⟩ := h
  refine wpAny_Call_Name_kw (ld_glob (X := X.suite a ((a, oe) :: pn)) I hg gm ?_ (by decide))
  have var : PE (X.suite a ((a, oe) :: pn)) (.Name n p2) (tVar i) := pe_var (X := X.suite a ((a, oe) :: pn)) (pos := p2) (i := i) hi (.inl hln) hd hcd
  have ha : PA (X.suite a ((a, oe) :: pn)) [.Name n p2] (tCons (tVar i) tNil) := pa_cons var pa_nil
  refine PySem.W.callWith_K (h₀ := X.base) I.ok.mod.kin kp (thn (ha.run pos pins s σ H (fun vs H1 => vs = [V.ref a] ∧ H1 = H) I ?_) fun us s1 hh => ?_)
  · exact ⟨_, hs, rfl, rfl⟩
  obtain ⟨vs, H1, I1, r, ev, eH⟩ := hh
  subst ev
  rw [eH] at I1
  refine ⟨I1.kIn, ?_⟩
  obtain ⟨u, rfl, ru⟩ := r.one
  cases ru
  have P1 := I1.pin (a, oe) (List.mem_append_left _ List.mem_cons_self)
  have pin : L2H.PinOk X.stack H s1 (a, oe) := ⟨P1.1, P1.2.1, fun hm => (List.mem_cons.mp (I1.stkSub a hm)).elim P1.2.2.1 P1.2.2.2.1, P1.2.2.2.2⟩
  obtain ⟨vs, hv⟩ := hf
  have ask : AskOk X.K (X.A.mark (some (.ref a))) (a, oe) C := ⟨⟨rfl, vs, hv, hz.2.2 vs hv⟩, hz.1, hz.2.1⟩
  have b := hb s1 [.ref a] I1.kIn rfl
  rw [List.append_nil] at b
  refine wpAny_call (codeAny_mono (run (X.A.mark (some (.ref a))) X.stack s1 H ⟨[.ref a], []⟩ Q (a, oe) C nm L rh ⟨hr.dp, hr.un⟩ ask hC pin I1.env0 b hQ) fun r s' hq => ?_)
  cases r with
  | error e =>
    obtain ⟨_, _, _, _, _, _, _, _, _, _, _, _, z⟩ := hq
    exact z.elim
  | ok fl =>
    cases fl with
    | ret u => exact I1.after hq
    | next => exact False.elim hq
    | brk => exact False.elim hq
    | cont => exact False.elim hq
theorem ls_tryN {n : Str} {i : Nat} {body : List Stmt} {q p2 p3 p4 np pos pos' : Pos} {b : LTS} (hs : X.stack = X.env :: X.outer) (hf : X.env.frame = some X.env.locals) (hN : X.N.Nodup) (hi : X.N[i]? = some n) (hln : X.env.kindOf n = some .local)
    (M : NmOk X.prog X.w X.K X.mg X.base k CL tbl) (hr : Room k X.A) (hb : ∀ (pn : List (Addr × Obj)) (xe : Value → Shared → Prop), PassesOwn (model X.prog X.w) X.A X.env xe → LSs (X.tr pn xe) body b)
    (hgl : Gl X "LookError" := by rfl) (hg : Gl X "_law_name" := by rfl) (hd : (n == ("__debug__" : Str)) = false := by decide) (hcd : (n == ("__classdict__" : Str)) = false := by decide) :
    LS X (.Try body [.ExceptHandler (some (.Name "LookError" np)) (some n) [.Return (some (.Call (.Name "_law_name" q) [.Name n p2] [] p3)) p4] pos'] [] [] pos) (sTryN tbl b) := fun W tk => by
  refine ps_weak (L2N.ps_try_as (tb := fun W' => upS X.K W' b) (ts := fun a cls d => fun D σ H => ∃ C nm, cls = .ref C ∧ d = none ∧ tbl.lookup C = some nm ∧ (∃ σ0 : L2.St, σ = σ0.set i (some (.ref a))) ∧ ∃ L, RH X.K L H ∧ ∀ H', RH X.K L H' → Ext L H L H' → D.rt (.str nm) H') hs hf hN hi hln ⟨hgl, by decide, .inl M.look⟩ tk (fun W' pn xe tk' hp => hb pn xe hp W' tk') fun a oe cls d pn hz hv => ?_) fun D σ H h => ?_
  · refine ⟨fun pins s σ H D I h => ?_⟩
    obtain ⟨C, nm, rfl, rfl, hC, ⟨σ0, rfl⟩, h2⟩ := h
    have h1 : (σ0.set i (some (V.ref a)))[i]? = some (some (.ref a)) := by
      have hl : (σ0.set i (some (V.ref a))).length = X.N.length := I.len
      have hi' := (List.getElem?_eq_some_iff.mp hi).1
      rw [List.length_set] at hl
      exact List.getElem?_set_self (by omega)
    exact (pss_one (ps_ret (call_nm M hr hC hz hv hi hln hg hd hcd))).run pins s _ H D I ⟨h1, h2⟩
  · obtain ⟨σl, L, Dl, rh, rs, sd, h⟩ := h
    refine ⟨σl, L, { Dl with ex := fun e L1 => match tbl.lookup e.c with
      | some s => e.row = none ∧ Dl.rt (.str s) L1
      | none => False }, rh, rs, ⟨sd.nx, sd.rt, sd.bk, sd.ct, fun e L' cls d σ' H' r y rx q => ?_⟩, h⟩
    have q0 : (match tbl.lookup e.c with
      | some s => e.row = none ∧ Dl.rt (.str s) L'
      | none => False) := q
    cases hl : tbl.lookup e.c with
    | none =>
      rw [hl] at q0
      exact q0.elim
    | some nm =>
      rw [hl] at q0
      obtain ⟨er, q⟩ := q0
      have e1 : cls = .ref e.c := rx.1
      refine ⟨true, by rw [e1]; exact M.ex _ _ hl, fun _ a ha => ⟨e.c, nm, e1, rx.2.1 er, hl, ⟨σ', rfl⟩, L', r, fun H2 r2 y2 => ?_⟩, fun z => by cases z⟩
      exact sd.rt (.str nm) L' _ H2 r2 (y.trans y2) rfl q
end
/-! ### what the refusals' classes must say, as one Bool -/
def excB (K : PySem.W.Frag) (D : Addr) : Bool := decide (PySem.W.findIn K (.ref D) "__getattribute__" = some (some (.builtin "BaseException.__getattribute__"))) && (decide (PySem.W.findIn K (.ref D) "__getattr__" = some none) && (decide (PySem.W.subIn K (.ref D) (.type "BaseException") = some true) && (PySem.W.hasDictIn K D &&
  (decide (PySem.W.findIn K (.ref D) "__class__" = some (some (.builtin "object.__class__"))) && (decide (PySem.W.specialIn K (.builtin "object.__class__") "__get__" = some (some (.builtin "getset_descriptor.__get__"))) && (decide (PySem.W.takesIn K (.builtin "object.__class__") = some true) && decide (PySem.W.mroIn K D (.type "object") = some true)))))))
theorem andB {a b : Bool} (h : (a && b) = true) : a = true ∧ b = true := Bool.and_eq_true_iff.mp h
theorem excB_ok {K : PySem.W.Frag} {D : Addr} (h : excB K D = true) : ExcC K D := by
  unfold excB at h
  obtain ⟨h1, h⟩ := andB h
  obtain ⟨h2, h⟩ := andB h
  obtain ⟨h3, h⟩ := andB h
  obtain ⟨h4, h⟩ := andB h
  obtain ⟨h5, h⟩ := andB h
  obtain ⟨h6, h⟩ := andB h
  obtain ⟨h7, h8⟩ := andB h
  exact ⟨of_decide_eq_true h1, of_decide_eq_true h2, of_decide_eq_true h3, h4, of_decide_eq_true h5, of_decide_eq_true h6, of_decide_eq_true h7, of_decide_eq_true h8⟩
def ten : List Str := ["TooMany", "NoKind", "NoDeed", "NoBody", "Ring", "BadSpots", "BadWide", "BadRule", "NoSpot", "BadText"]
/-- ad: where the classes stand -/
def hotB (K : PySem.W.Frag) (ad : Str → Addr) : Bool := ten.all fun x => excB K (ad x) && (decide (PySem.W.exmOne K (.ref (ad x)) (.ref (ad "LookError")) = some true) && (decide (PySem.W.kitOne K (.ref (ad x)) (.type "ValueError") = some true) && ten.all fun y => decide (PySem.W.kitOne K (.ref (ad x)) (.ref (ad y)) = some (decide (x = y)))))
structure HotF (K : PySem.W.Frag) (ad : Str → Addr) : Prop where
  ec : ∀ x ∈ ten, ExcC K (ad x)
  lk : ∀ x ∈ ten, PySem.W.exmOne K (.ref (ad x)) (.ref (ad "LookError")) = some true
  ve : ∀ x ∈ ten, PySem.W.kitOne K (.ref (ad x)) (.type "ValueError") = some true
  kt : ∀ x ∈ ten, ∀ y ∈ ten, PySem.W.kitOne K (.ref (ad x)) (.ref (ad y)) = some (decide (x = y))
theorem hotB_ok {K : PySem.W.Frag} {ad : Str → Addr} (h : hotB K ad = true) : HotF K ad := by
  unfold hotB at h
  rw [List.all_eq_true] at h
  refine ⟨fun x hx => excB_ok (andB (h x hx)).1, fun x hx => of_decide_eq_true (andB (andB (h x hx)).2).1, fun x hx => of_decide_eq_true (andB (andB (andB (h x hx)).2).2).1, fun x hx y hy => ?_⟩
  have h2 := (andB (andB (andB (h x hx)).2).2).2
  rw [List.all_eq_true] at h2
  exact of_decide_eq_true (h2 y hy)
theorem HotF.inj {K : PySem.W.Frag} {ad : Str → Addr} (h : HotF K ad) : ∀ x ∈ ten, ∀ y ∈ ten, ad x = ad y → x = y := fun x hx y hy e => by
  have h1 := h.kt x hx y hy
  rw [← e, h.kt x hx x hx] at h1
  simpa using h1
def tbl10 (ad : Str → Addr) : List (Addr × Str) := ten.map fun x => (ad x, x)
theorem tbl_in {ad : Str → Addr} {C : Addr} {nm : Str} : ∀ {l : List Str}, (l.map fun x => (ad x, x)).lookup C = some nm → nm ∈ l ∧ C = ad nm
  | [], h => by simp at h
  | x :: l, h => by
    rw [List.map_cons, List.lookup_cons] at h
    cases c : C == ad x with
    | true =>
      rw [c] at h
      cases h
      exact ⟨by simp, eq_of_beq c⟩
    | false =>
      rw [c] at h
      obtain ⟨h1, h2⟩ := tbl_in (l := l) h
      exact ⟨List.mem_cons_of_mem _ h1, h2⟩
theorem tbl_look {ad : Str → Addr} {x : Str} : ∀ {l : List Str}, x ∈ l → (∀ y ∈ l, ad y = ad x → y = x) → (l.map fun x => (ad x, x)).lookup (ad x) = some x
  | [], h, _ => by cases h
  | y :: l, h, inj => by
    rw [List.map_cons, List.lookup_cons]
    cases c : ad x == ad y with
    | true => rw [inj y (by simp) (eq_of_beq c).symm]
    | false =>
      rcases List.mem_cons.mp h with rfl | h
      · simp at c
      · exact tbl_look h fun z hz => inj z (by simp [hz])
end LK
set_option Elab.async false
set_option linter.all false
set_option maxRecDepth 100000
set_option maxHeartbeats 2000000
/-! sum of a tuple; isinstance of an own class; sorted of (number, text). -/
namespace LK
open PySem PySem.Spec PyProof.Rows L2
section
variable {X : Cx}
def rSumT (K : PySem.W.Frag) : List V → Hp → VK → Prop := fun vs H Q => ∃ (a : Addr) (ns : List Int), vs = [V.ref a] ∧ SqT K H a (ns.map V.int) ∧ Q (.int ns.sum) H
theorem cr_sumT (hc : X.calm = true) : CallR X (.builtin "sum") (rSumT X.K) := by
  intro pins s σ H vs us Q I r h
  obtain ⟨a, ns, rfl, hs, q⟩ := h
  obtain ⟨its, rv, hl, _⟩ := I.tuple hs
  rw [Vals.ref1 r]
  have hi := rv.ints
  obtain ⟨xs, e⟩ := hi.allInts.items
  have hn : numsOf (intItems xs).toList = ns := by
    rw [← e]
    exact hi.numsOf
  rw [nums_intItems] at hn
  have ht : s.heap.IsTuple a (intItems xs) := by
    rw [← e]
    exact hl
  refine PySem.W.ktm_sumG (I.ok.hd hc) ht fun h' tk t' hk => ⟨.int ns.sum, H, I.kept hk, ⟨t', ?_⟩, q⟩
  rw [preSum_eq, List.take_of_length_le (by simp), hn]
def lSum : LC := fun as L Q => match as with
  | [a] => match tupOf a with
    | some ls => match intsOf ls with
      | some ns => Q (.int ns.sum) L
      | none => False
    | none => False
  | _ => False
theorem c_sum (hc : X.calm = true) : CallL X (.builtin "sum") lSum := ⟨_, cr_sumT hc, fun L H as xs Ql Q rh ras s h => by
  unfold lSum at h
  split at h
  · rename_i a
    obtain ⟨x, rfl, ra⟩ := ras.one
    cases e : tupOf a with
    | none => rw [e] at h; exact h.elim
    | some ls =>
      rw [e] at h
      cases e2 : intsOf ls with
      | none => simp only [e2] at h
      | some ns =>
        simp only [e2] at h
        obtain ⟨p, ys, rfl, hs, ry⟩ := tupOf_sim ra e
        have e3 := intsOf_eq e2
        subst e3
        have ey := ry.ints
        subst ey
        exact ⟨p, ns, rfl, hs, s (.int ns.sum) L _ _ rh .refl rfl h⟩
  · exact h.elim⟩
/-- isinstance(x, C) of an object of C -/
structure InsF (K : PySem.W.Frag) (C : Addr) : Prop where
  c : Cls K C
  ha : PySem.W.findIn K (.ref C) "__class__" = some (some (.builtin "object.__class__"))
  hn : PySem.W.specialIn K (.builtin "object.__class__") "__get__" = some (some (.builtin "getset_descriptor.__get__"))
  ht : PySem.W.takesIn K (.builtin "object.__class__") = some true
  hm : PySem.W.mroIn K C (.type "object") = some true
def insB (K : PySem.W.Frag) (C : Addr) : Bool := decide (PySem.W.findIn K (.ref C) "__class__" = some (some (.builtin "object.__class__"))) && (decide (PySem.W.specialIn K (.builtin "object.__class__") "__get__" = some (some (.builtin "getset_descriptor.__get__"))) && (decide (PySem.W.takesIn K (.builtin "object.__class__") = some true) && decide (PySem.W.mroIn K C (.type "object") = some true)))
theorem insB_ok {K : PySem.W.Frag} {C : Addr} (c : Cls K C) (h : insB K C = true) : InsF K C := by
  unfold insB at h
  obtain ⟨h1, h⟩ := andB h
  obtain ⟨h2, h⟩ := andB h
  obtain ⟨h3, h4⟩ := andB h
  exact ⟨c, of_decide_eq_true h1, of_decide_eq_true h2, of_decide_eq_true h3, of_decide_eq_true h4⟩
def lIsC (C : Addr) : LC := fun as L Q => match as with
  | [.ref p, .ref D] => D = C ∧ ∃ fs, L p = some (.ins C fs) ∧ Q (.bl true) L
  | _ => False
theorem c_isC {C : Addr} (F : InsF X.K C) : CallL X (.builtin "isinstance") (lIsC C) := ⟨_, call_isi, fun L H as xs Ql Q rh ras s h => by
  unfold lIsC at h
  split at h
  · rename_i p D
    obtain ⟨x, y, rfl, rx, ry⟩ := ras.two
    obtain ⟨rfl, fs, hp, h⟩ := h
    obtain ⟨dx, ys, hy, _⟩ := rh.ins hp
    rw [rx.ref_inv, ry.ref_inv]
    refine ⟨.ref p, .ref D, .ref D, .ref D, true, rfl, .own D, .base (.ins hy F.c F.ha F.hn F.ht F.hm), ?_, s (.bl true) L _ _ rh .refl rfl h⟩
    unfold PySem.W.kitOne
    rw [if_pos (by simp)]
  · exact h.elim⟩
end
end LK
set_option Elab.async false
set_option linter.all false
set_option maxRecDepth 100000
set_option maxHeartbeats 4000000
/-! sorted of (number, word), the words drop, put, turn. -/
namespace LK
open PySem PySem.Spec PyProof.Rows L2
def wordN (j : Int) : Str := if j = 0 then "drop" else if j = 1 then "put" else "turn"
def codeW (z : Str) : Int := if z = "drop" then 0 else if z = "put" then 1 else 2
def Cd3 (j : Int) : Prop := j = 0 ∨ j = 1 ∨ j = 2
theorem code_word {j : Int} (h : Cd3 j) : codeW (wordN j) = j := by
  rcases h with rfl | rfl | rfl <;> decide +kernel
theorem word_lt {i j : Int} (hi : Cd3 i) (hj : Cd3 j) : ltCps (wordN i).cps.toList (wordN j).cps.toList = decide (i < j) := by
  rcases hi with rfl | rfl | rfl <;> rcases hj with rfl | rfl | rfl <;> decide +kernel
theorem word_eq {i j : Int} (hi : Cd3 i) (hj : Cd3 j) : (wordN i == wordN j) = decide (i = j) := by
  rcases hi with rfl | rfl | rfl <;> rcases hj with rfl | rfl | rfl <;> decide +kernel
def IsPrW (h : Heap) (v : Value) (x y : Int) : Prop := Cd3 y ∧ ∃ a o t u n, v = .ref a ∧ h.get? a = some o ∧ o.cls = .type "tuple" ∧ o.data = .seq #[.int x t, .str (wordN y) u] n
theorem IsPrW.keeps {h h' : Heap} {v : Value} {x y : Int} (p : IsPrW h v x y) (k : ∀ b o, h.get? b = some o → o.cls = .type "tuple" → h'.get? b = some o) : IsPrW h' v x y := by
  obtain ⟨hc, a, o, t, u, n, e, ho, c, d⟩ := p
  exact ⟨hc, a, o, t, u, n, e, k _ _ ho c, c, d⟩
theorem firstsW {h : Heap} : ∀ {vs : List Value}, (∀ v ∈ vs, ∃ x y, IsPrW h v x y) → ∃ fs : List Value, PySem.W.KatTups h vs fs ∧ fs.length = vs.length ∧ ∀ f ∈ fs, ∃ x t, f = Value.int x t
  | [], _ => ⟨[], PySem.W.KatTups.nil, rfl, fun _ hm => by simp at hm⟩
  | v :: vs, hp => by
    obtain ⟨fs, k, hl, hi⟩ := firstsW (vs := vs) fun u hm => hp u (List.mem_cons_of_mem _ hm)
    obtain ⟨x, y, _, a, o, t, u, n, rfl, ho, c, d⟩ := hp v List.mem_cons_self
    refine ⟨.int x t :: fs, ?_, by simp [hl], fun f hm => ?_⟩
    · first
        | exact .cons ho d rfl k
        | exact .cons ho c d rfl k
        | exact .cons ho c d k
        | exact .cons ho d k
    · rcases List.mem_cons.mp hm with rfl | z
      · exact ⟨x, t, rfl⟩
      · exact hi f z
section
variable {prog : Program} {w : World} {A : Around} {s : Shared}
theorem prw_cmp {vs : List Value} {k : Value → Int × Int} (hp : ∀ v ∈ vs, IsPrW s.heap v (k v).1 (k v).2) : SrtO.Cmp prog w A s (tuples' true) (fun p => p.1 ∈ vs) (SrtO.lt2 fun v u => SrtO.lexB (k v) (k u)) := by
  intro p q m1 m2
  have g1 := hp _ m1
  have g2 := hp _ m2
  show wpAny (model prog w) A (keyLt' (tuples' true) p.1 q.1) (fun r s' => s' = s ∧ r = SrtO.lexB (k p.1) (k q.1)) (fun _ _ => False) s
  unfold SrtO.lexB
  generalize (k p.1).1 = x1 at g1 ⊢
  generalize (k p.1).2 = y1 at g1 ⊢
  generalize (k q.1).1 = x2 at g2 ⊢
  generalize (k q.1).2 = y2 at g2 ⊢
  obtain ⟨c1, a1, o1, t1, u1, n1, e1, ho1, hc1, hd1⟩ := g1
  obtain ⟨c2, a2, o2, t2, u2, n2, e2, ho2, hc2, hd2⟩ := g2
  rw [e1, e2]
  refine PySem.W.kat_lt ho1 hd1 ho2 hd2 ?_
  show PySem.W.KatLex prog w A true (decide (2 < 2)) _ [(.int x1 t1, .int x2 t2), (.str (wordN y1) u1, .str (wordN y2) u2)] 0 s
  refine PySem.W.kat_cons (SeqAt.EqAt.int_int x1 t1 x2 t2 prog w _ _ (PySem.W.kat_go (fun f1 => ?_) fun f1 => ?_))
  · have ex : x1 = x2 := by simpa using f1
    refine PySem.W.kat_yes (PySem.W.kat_cons (SeqAt.EqAt.str_str (wordN y1) u1 (wordN y2) u2 prog w _ _ (PySem.W.kat_go (fun f2 => ?_) fun f2 => ?_)))
    · have ey : y1 = y2 := by
        rw [word_eq c1 c2] at f2
        simpa using f2
      have z : (if x1 = x2 then decide (y1 < y2) else decide (x1 < x2)) = false := by
        rw [if_pos ex, ey]
        exact decide_eq_false (Int.lt_irrefl _)
      exact PySem.W.kat_yes (PySem.W.kat_nil ⟨rfl, z.symm⟩)
    · have z : (if x1 = x2 then decide (y1 < y2) else decide (x1 < x2)) = decide (y1 < y2) := if_pos ex
      refine PySem.W.kat_no (PySem.W.kat_one _ _ (PyProof.Rows.lt_str ?_))
      have z2 : decide ((wordN y1).cps.toList < (wordN y2).cps.toList) = decide (y1 < y2) := by rw [lt_meets, word_lt c1 c2]
      rw [z2]
      exact (show s = s ∧ decide (y1 < y2) = (if x1 = x2 then decide (y1 < y2) else decide (x1 < x2)) from ⟨rfl, z.symm⟩)
  · have ex : ¬ x1 = x2 := by simpa using f1
    have z : (if x1 = x2 then decide (y1 < y2) else decide (x1 < x2)) = decide (x1 < x2) := if_neg ex
    exact PySem.W.kat_no (PyProof.Rows.oneLt_int ⟨rfl, z.symm⟩)
theorem prw_sortable {a : Addr} {vs : List Value} {k : Value → Int × Int} (h0 : 0 < vs.length) (hp : ∀ v ∈ vs, IsPrW s.heap v (k v).1 (k v).2) (ha : ∀ o, s.heap.get? a = some o → o.cls ≠ .type "tuple") : SrtO.SortableO prog w A s a vs fun v u => SrtO.lexB (k v) (k u) := by
  intro h' keep
  have g : ∀ v ∈ vs, IsPrW h' v (k v).1 (k v).2 := fun v hm => (hp v hm).keeps fun b o e c => keep b o (fun z => by
    subst z
    exact ha o e c) e
  obtain ⟨fs, k1, k2, k3⟩ := firstsW fun v hm => ⟨_, _, g v hm⟩
  refine ⟨tuples' true, fun Q E hq => PySem.W.kat_kind (T := .type "int") k1 (by omega) (fun f hm => ?_) (by rfl) ?_, prw_cmp g⟩
  · obtain ⟨x, t, rfl⟩ := k3 f hm
    exact PySem.W.Looks.now
  · rw [show (Value.type "int" != Value.type "tuple") = true by first | decide +kernel | rfl]
    exact hq
theorem sorted_prw {E : Value → Shared → Prop} {l : Addr} {vs : List Value} {k : Value → Int × Int} {Q : Value → Shared → Prop} (hl : s.heap.IsList l vs.toArray) (hz : vs.length ≤ sizeLine) (hp : ∀ v ∈ vs, IsPrW s.heap v (k v).1 (k v).2)
    (h : ∀ (h' : Heap) (d : Addr) (out : List Value), SrtO.Srtd (fun v u => SrtO.lexB (k v) (k u)) out → SrtO.Stb (fun v u => SrtO.lexB (k v) (k u)) out vs → (∀ b o, s.heap.get? b = some o → h'.get? b = some o) → s.heap.objs.size ≤ d → (∃ n, h'.get? d = some (seqObj "list" out.toArray n)) → Q (.ref d) { s with heap := h' }) :
    wpAny (model prog w) A (call (.builtin "sorted") [.ref l]) Q E s := by
  refine SrtO.sorted_ord (SrtO.swo_lex k) hl hz (fun h2 h₁ a ha kk => prw_sortable (s := { s with heap := h₁ }) (by omega) (fun v hm => (hp v hm).keeps fun b o e _ => (kk b o e).2) fun o e => ?_) fun out hs hb => ?_
  · have e' : some o = some (seqObj "list" vs.toArray 0) := e.symm.trans ha
    cases e'
    intro c
    exact absurd (Value.type.inj c) (by decide)
  · exact h _ _ out hs hb (fun b o e => PyProof.Rows.sortedAll_old e) (Nat.le_succ _) (PyProof.Rows.sortedAll_at s.heap vs out.toArray)
end
section
variable {X : Cx}
def rSortedW (K : PySem.W.Frag) : List V → Hp → VK → Prop := fun vs H Q => ∃ (a : Addr) (xs : List V) (k : V → Int × Int), vs = [V.ref a] ∧ SqL K H a xs ∧ (∀ x ∈ xs, Cd3 (k x).2 ∧ ∃ t, x = V.ref t ∧ H t = some (.tup [.int (k x).1, .str (wordN (k x).2)])) ∧
  ∀ ys p, SrtO.Srtd (ltP k) ys → SrtO.Stb (ltP k) ys xs → H p = none → Q (.ref p) (upd H p (.lst ys))
theorem cr_sortedW : CallR X (.builtin "sorted") (rSortedW X.K) := by
  intro pins s σ H vs us Q I r h
  obtain ⟨a, xs, k, rfl, hs, hx, q⟩ := h
  obtain ⟨its, rv, hl, hz⟩ := I.list hs
  obtain ⟨u, rfl, ru⟩ := vals1 r
  obtain rfl : u = Value.ref a := ru
  obtain ⟨e1, e2⟩ := refs_back rv fun x m => let ⟨_, t, e, _⟩ := hx x m; ⟨t, e⟩
  refine sorted_prw (k := fun u => k (backV u)) hl.isList (by rw [← rv.length]; exact hz) (fun v hv => ?_) fun h' d out h1 h2 kp hd hn => ?_
  · obtain ⟨t, rfl⟩ := e2 v hv
    have hm : V.ref t ∈ xs := by
      rw [e1]
      exact List.mem_map.mpr ⟨_, hv, rfl⟩
    obtain ⟨hc3, t', e, ht⟩ := hx _ hm
    cases e
    obtain ⟨_, its2, r2, o, ho, hc, n, hd⟩ := I.hok _ _ ht
    obtain ⟨u1, u2, rfl, ri, rj⟩ := vals2 r2
    obtain ⟨t1, rfl⟩ := ri
    obtain ⟨t2, rfl⟩ := rj
    exact ⟨hc3, t, o, t1, t2, n, rfl, ho, hc, hd⟩
  · have h3 : ∀ u ∈ out, ∃ a, u = Value.ref a := fun u hu => e2 u (h2.perm.mem_iff.mp hu)
    obtain ⟨n, hn⟩ := hn
    have hb : SrtO.Stb (ltP k) (out.map backV) xs := by
      rw [e1]
      exact SrtO.Stb.map (ltP_swo k) backV h2
    refine ⟨.ref d, upd H d (.lst (out.map backV)), I.laid (t' := s.toks) kp hd ⟨?_, out, n, vals_back h3, hn⟩, rfl, q _ d (SrtO.srtd_map h1) hb (I.hok.fresh hd)⟩
    rw [hb.len]
    exact hz
end
/-! ### logically -/
def isL (p : Int × Int) : LV := .tup [.int p.1, .str (wordN p.2)]
section
variable {K : PySem.W.Frag} {L : LHp} {H : Hp} {X : Cx}
def prwAt (H : Hp) (x : V) : Int × Int := match x with
  | .ref t => match H t with
    | some (.tup [.int i, .str z]) => (i, codeW z)
    | _ => (0, 0)
  | _ => (0, 0)
theorem isL_sim : ∀ {ps : List (Int × Int)} {xs : List V}, RVs K L H (ps.map isL) xs → (∀ p ∈ ps, Cd3 p.2) → xs.map (prwAt H) = ps ∧ ∀ x ∈ xs, Cd3 (prwAt H x).2 ∧ ∃ t, x = V.ref t ∧ FzT L H t [.int (prwAt H x).1, .str (wordN (prwAt H x).2)]
  | [], xs, r, _ => by
    have r' : RVs K L H [] xs := r
    unfold RVs at r'
    rw [r']
    exact ⟨rfl, fun x hx => by cases hx⟩
  | p :: ps, xs, r, hc => by
    have r' : RVs K L H (isL p :: ps.map isL) xs := r
    unfold RVs at r'
    obtain ⟨y, q, rfl, h1, h2⟩ := r'
    obtain ⟨q1, q2⟩ := isL_sim h2 fun z hz => hc z (List.mem_cons_of_mem _ hz)
    obtain ⟨t, zs, rfl, f, rz⟩ := RV.tup_inv h1
    obtain ⟨z1, z2, rfl, ra, rb⟩ := rz.two
    rw [ra.int_inv, rb.str_inv] at f
    have hcp := hc p List.mem_cons_self
    have ep : prwAt H (V.ref t) = p := by
      unfold prwAt
      simp only [f.2, code_word hcp]
    refine ⟨by rw [List.map_cons, q1, ep], fun x hx => ?_⟩
    rcases List.mem_cons.mp hx with rfl | hx
    · rw [ep]
      exact ⟨hcp, t, rfl, f⟩
    · exact q2 x hx
theorem isL_back : ∀ (ys : List V), (∀ x ∈ ys, ∃ t, x = V.ref t ∧ FzT L H t [.int (prwAt H x).1, .str (wordN (prwAt H x).2)]) → RVs K L H ((ys.map (prwAt H)).map isL) ys
  | [], _ => .nil
  | y :: ys, h => by
    obtain ⟨t, e, f⟩ := h y List.mem_cons_self
    refine .cons ?_ (isL_back ys fun x hx => h x (List.mem_cons_of_mem _ hx))
    rw [e] at f ⊢
    exact .of_tup f (.cons rfl (.cons rfl .nil))
def lSortIS (fr : Bool) : LC := fun as L Q => match as with
  | [a] => ∃ ps : List (Int × Int), lstOf L a = some (ps.map isL) ∧ (∀ p ∈ ps, Cd3 p.2) ∧ ∀ qs : List (Int × Int), qs.Perm ps → qs.Pairwise (fun p q => SrtO.lexB q p = false) → newL fr (qs.map isL) L Q
  | _ => False
theorem c_sortIS {fr : Bool} (hc : X.calm = true) : CallL X (.builtin "sorted") (lSortIS fr) := ⟨_, cr_sortedW, fun L H as xs Ql Q rh ras s h => by
  unfold lSortIS at h
  split at h
  · rename_i a
    obtain ⟨x, rfl, ra⟩ := ras.one
    obtain ⟨ps, e1, h3, h⟩ := h
    obtain ⟨p, xs, rfl, hx, rx⟩ := lstOf_sim rh ra e1
    obtain ⟨q1, q2⟩ := isL_sim rx h3
    refine ⟨p, xs, prwAt H, rfl, SqL.of hx, fun x hx => let ⟨c, t, e, f⟩ := q2 x hx; ⟨c, t, e, f.2⟩, fun ys t srt stb ht => ?_⟩
    have pm : ys.Perm xs := stb.perm
    refine newL_sim rh s (isL_back ys fun x hx => (q2 x (pm.mem_iff.mp hx)).2) (h (ys.map (prwAt H)) ?_ ?_) t ht
    · rw [← q1]
      exact pm.map _
    · exact List.pairwise_map.mpr srt
  · exact h.elim⟩
end
end LK
set_option Elab.async false
set_option linter.all false
set_option maxRecDepth 100000
set_option maxHeartbeats 2000000
/-! A list of anything == []. -/
namespace LK
open PySem PySem.Spec PyProof.Rows L2
section
variable {X : Cx}
def rEqN (K : PySem.W.Frag) : R2 := fun x y H Q => ∃ (p q : Addr) (xs : List V), x = .ref p ∧ y = .ref q ∧ SqL K H p xs ∧ SqL K H q [] ∧ Q (.bl (decide (xs.length = 0))) H
theorem op_eqN (hu : X.A.units + 64 < cLine) : OpR X (compareOp .Eq) (rEqN X.K) := by
  intro pins s σ H x y v u Q I rx ry h
  obtain ⟨p, q, xs, rfl, rfl, h1, h2, hq⟩ := h
  obtain ⟨its, rv, hl, _⟩ := I.list h1
  obtain ⟨its2, rv2, hl2, _⟩ := I.list h2
  obtain rfl : v = Value.ref p := rx
  obtain rfl : u = Value.ref q := ry
  have e1 : its.length = xs.length := rv.length.symm
  have e2 : its2.length = 0 := by rw [← rv2.length]; rfl
  by_cases c : xs.length = 0
  · rw [decide_eq_true c] at hq
    refine SeqAt.rcIn_lists (e := fun _ => true) hl.isList hl2.isList (by simp only [List.size_toArray]; omega) (by omega) (fun j h1 h2 => absurd h1 (by simp only [List.size_toArray]; omega)) ⟨.bl true, H, I, ?_, hq⟩
    have e3 : its.toArray.size = 0 := by simp only [List.size_toArray]; omega
    rw [e3]
    rfl
  · rw [decide_eq_false c] at hq
    exact SeqAt.RcAt.lists_lengths hl.isList hl2.isList (by simp only [List.size_toArray]; first | omega | (rw [bne_iff_ne]; omega) | (intro z; omega)) (by omega) _ _ _ _ ⟨.bl false, H, I, rfl, hq⟩
def lEqN : LR2 := fun a b L Q => ∃ xs, lstOf L a = some xs ∧ lstOf L b = some [] ∧ Q (.bl (decide (xs.length = 0))) L
theorem o_eqN (hu : X.A.units + 64 < cLine) : OpL X (compareOp .Eq) lEqN := ⟨_, op_eqN hu, fun L H a b x y Ql Q rh ra rb s h => by
  obtain ⟨xs, h1, h2, hq⟩ := h
  obtain ⟨p, ys, rfl, e1, r1⟩ := lstOf_sim rh ra h1
  obtain ⟨q, zs, rfl, e2, r2⟩ := lstOf_sim rh rb h2
  have e3 : zs = [] := by
    unfold RVs at r2
    exact r2
  subst e3
  have e4 : ys.length = xs.length := r1.length
  refine ⟨p, q, ys, rfl, rfl, SqL.of e1, SqL.of e2, ?_⟩
  rw [e4]
  exact s (.bl _) L _ H rh .refl rfl hq⟩
end
end LK
set_option Elab.async false
set_option linter.all false
set_option maxRecDepth 100000
set_option maxHeartbeats 2000000
/-! _law_kind(lambda: ..). -/
namespace LK
open PySem PySem.Spec PyProof.Rows L2
theorem RO.no_tbl {K : PySem.W.Frag} {L : LHp} {H : Hp} {lo : LO} {ps : Array Value} (h : RO K L H lo (.tbl ps)) : False := by
  cases lo with
  | lst ls => obtain ⟨_, e, _⟩ := h; cases e
  | dct ls => obtain ⟨_, e, _⟩ := h; cases e
  | dtt ls => obtain ⟨_, e, _⟩ := h; cases e
  | fdt od ys ls => obtain ⟨e, _⟩ := h; cases e
  | ins C fs => obtain ⟨_, _, e, _⟩ := h; cases e
def lamXe (X : Cx) (A : Around) (outer : List Env) (s : Shared) (H : Hp) (E : XK) (scope : Scope) (f c' : Addr) : Value → Shared → Prop := fun e s' =>
  wpAny (model X.prog X.w) (A.deeper (LamX.lamEnv X scope s.heap.objs.size f c')) (leaving (LamX.lamEnv X scope s.heap.objs.size f c') e) (fun _ s'' => L2N.CX X.prog X.w outer H s E e s'') (fun e' s'' => L2N.CX X.prog X.w outer H s E e' s'') s'
/-- the lambda's own context, refusals as ours are -/
abbrev lamN (X : Cx) (A : Around) (outer : List Env) (s : Shared) (H : Hp) (E : XK) (scope : Scope) (f c' : Addr) : Cx := (LamX.lamCx X A outer s H E scope f c').tr [] (lamXe X A outer s H E scope f c')
theorem lamN_takes {X : Cx} {A : Around} {outer : List Env} {s : Shared} {H : Hp} {E : XK} {scope : Scope} {f c' : Addr} : L2N.Takes (lamN X A outer s H E scope f c') (fun cls d _ H' => E cls d H') := L2N.takes_of rfl rfl rfl rfl
section
variable {X : Cx} {pins : List (Addr × Obj)} {σ : L2.St} {H : Hp} {s : Shared}
/-- the lambda is asked, in the def that got it -/
theorem act_n {CXg : CXT} {Eg : XK} {Ng : List Str} {qg : Str} {sg : Scope} {g f c' : Addr} {cdg pm ctv : Value} {params : Arguments} {body : Expr} {scope : Scope} {k i : Nat} {a : Str} {pn : List (Addr × Obj)} {xe : Value → Shared → Prop} {W : WX} {E : XK} {tb : TE} {p1 p2 : Pos}
    (I : Inv X pins σ H s) (lm : LamX.LamS X.env.scope scope) (hf : s.heap.get? f = some (PySem.W.kla_obj "<lambda>" (X.env.qual ++ "<lambda>") params body scope (cloFrom X.env.cells scope.names []) pm c' ctv)) (hfn : H f = none) (hfr : f ∉ frs X.stack)
    (hbind : bindArgs (PySem.W.kla_fn "<lambda>" (X.env.qual ++ "<lambda>") params body scope (cloFrom X.env.cells scope.names []) pm (.ref c') ctv) ⟨[], []⟩ = pure [])
    (tk : L2N.Takes ((cxOf CXg X.prog X.w X.K X.mg X.base Ng qg sg g cdg X.A X.stack s H Eg).tr pn xe) W) (hW : ∀ cls d σ' H', E cls d H' → W cls d σ' H') (hr : Room (k + 1) (X.A.deeper (envOfC qg sg s.heap.objs.size g cdg)))
    (hbody : ∀ (A : Around) (outer : List Env) (s : Shared) (H : Hp), Room k (A.deeper (LamX.lamEnv X scope s.heap.objs.size f c')) → PE (lamN X A outer s H E scope f c') body tb)
    (hN : Ng[i]? = some a) (hv : Vis sg a) (hd : (a == ("__debug__" : Str)) = false := by decide) (hcd : (a == ("__classdict__" : Str)) = false := by decide) :
    PE ((cxOf CXg X.prog X.w X.K X.mg X.base Ng qg sg g cdg X.A X.stack s H Eg).tr pn xe) (.Call (.Name a p1) [] [] p2)
      (fun σZ HZ Q => σZ[i]? = some (some (.ref f)) ∧ HZ c' = some (LamX.CodeO c' (X.env.qual ++ "<lambda>")) ∧ tb σ HZ Q) := by
  refine ⟨fun pinsZ sZ σZ HZ Q IZ h => ?_⟩
  obtain ⟨hs, hc, ht⟩ := h
  refine wpAny_Call_Name_kw (thn ((pe_var (pos := p1) (i := i) hN hv hd hcd).run pinsZ sZ σZ HZ (fun v H1 => v = .ref f ∧ H1 = HZ) IZ ⟨.ref f, hs, rfl, rfl⟩) fun u s1 ⟨v, H1, I1, r1, ev, eH⟩ => ?_)
  subst ev
  rw [eH] at I1
  obtain rfl : u = Value.ref f := r1
  have of1 := I1.base.keep f _ hf hfn hfr (fun z => nomatch (show f ∈ ([] : List Addr) from z))
  refine PySem.W.callWith_F0 ⟨_, _, _, _, of1⟩ ?_
  have un : Un (frs X.stack) [] H HZ s.heap s1.heap := I1.base
  obtain ⟨⟨oc, vs, t, hoc, hdc, hvc⟩, _, _⟩ := I1.hok c' _ hc
  have rc : codeAny (model X.prog X.w) (X.A.deeper (envOfC qg sg s.heap.objs.size g cdg)) (.call (.ref f) ⟨[], []⟩) (CR (L2N.CX X.prog X.w) (envOfC qg sg s.heap.objs.size g cdg :: X.stack) X.prog X.w HZ s1 Q E) s1 := by
    refine PySem.W.kla_callFunE hr.depth of1 rfl lm.co lm.gen rfl ⟨c', oc, vs, t, rfl, hoc, hdc, hvc⟩ ?_
    rw [hbind]
    refine wpAny_pure (wpAny_newFunctionEnv (fun y hy => (lm.own y hy).2) (fun y hy => absurd hy (by simp)) (fun h₁ hns hsb => ⟨I1.nolimit.fresh _ hsb, ?_⟩) lm.kind)
    show codeAny _ _ (.expr body (LamX.lamEnv X scope s1.heap.objs.size f c')) _ _
    have kp : ∀ b o, s1.heap.get? b = some o → h₁.get? b = some o := fun b o e => hsb.extBut b o (Nat.ne_of_lt (Heap.lt_size e)) (Heap.get?_push_of_some _ e)
    have J0 : Inv (LamX.lamCx X (X.A.deeper (envOfC qg sg s.heap.objs.size g cdg)) (envOfC qg sg s.heap.objs.size g cdg :: X.stack) s1 HZ E scope f c') [] σ HZ { s1 with heap := h₁, toks := s1.toks + ([] : List (Str × Value)).length } :=
      LamX.lam_start2 I lm I1.env0 hr.hd un hns kp
    have J : Inv (lamN X (X.A.deeper (envOfC qg sg s.heap.objs.size g cdg)) (envOfC qg sg s.heap.objs.size g cdg :: X.stack) s1 HZ E scope f c') [] σ HZ { s1 with heap := h₁, toks := s1.toks + ([] : List (Str × Value)).length } := J0.toTry _
    refine PySem.W.kla_codeExpr (wpAny_mono ((hbody _ _ s1 HZ (hr.deeper _)).run [] _ _ HZ Q J ht) (fun v s' hq => ?_) fun e s' hq => hq)
    obtain ⟨w', H', J', rv, q⟩ := hq
    exact ⟨w', H', J'.os, J'.bare, J'.base, J'.hok, rv, q⟩
  have hx : Passes (L2N.CX X.prog X.w) ((cxOf CXg X.prog X.w X.K X.mg X.base Ng qg sg g cdg X.A X.stack s H Eg).tr pn xe) E := L2N.passes_call tk hW
  refine wpAny_call (codeAny_mono rc fun r s' hq => ?_)
  cases r with
  | error e => exact hx pinsZ σZ HZ s1 e s' I1 hq
  | ok fl =>
    cases fl with
    | ret u => exact I1.after hq
    | next => exact False.elim hq
    | brk => exact False.elim hq
    | cont => exact False.elim hq
end
/-- the body of the def that asks what it got and names the refusal -/
def KindB (bg : List Stmt) : Prop := ∃ (p1 p2 p3 p4 p5 p6 p7 p8 p9 p10 p11 p12 : Pos) (j : Nat), bg = [.Try [.Expr (.Call (.Name "_law_work" p1) [] [] p2) p3] [.ExceptHandler (some (.Name "LookError" p4)) (some "_law_e") [.Return (some (.Call (.Name "_law_name" p5) [.Name "_law_e" p6] [] p7)) p8] p9] [] [] p10, .Return (some (.Constant (.str "") j p11)) p12]
/-- what a refusal is named -/
def EchN (K : PySem.W.Frag) (tbl : List (Addr × Str)) (Q : VK) : XK := fun cls d H' => ∃ C nm, cls = .ref C ∧ d = none ∧ tbl.lookup C = some nm ∧ ∃ L, RH K L H' ∧ ∀ H2, RH K L H2 → Ext L H' L H2 → Q (.str nm) H2
theorem kind_gives {P : Program} {w : World} {K : PySem.W.Frag} {mg : Str → Option Value} {base : Heap} {k : Nat} {CL g : Addr} {tbl : List (Addr × Str)} {bg : List Stmt} {sg : Scope} {cdv : Value} {A : Around} {outer : List Env} {s : Shared} {H : Hp} {Q : VK} {f c' : Addr} {q : Str} {tl : XK → Hp → VK → Prop}
    (Sg : FnScope ["_law_work", "_law_e"] ["_law_work"] sg) (kb : KindB bg) (hgl : sg.names.lookup ("LookError" : Str) = some .globalImplicit) (hgn : sg.names.lookup ("_law_name" : Str) = some .globalImplicit) (hle : sg.names.lookup ("_law_e" : Str) = some .local)
    (M : NmOk P w K mg base k CL tbl) (hr : Room k (A.deeper (envOfC "_law_kind" sg s.heap.objs.size g cdv)))
    (act : ∀ (W : WX) (pn : List (Addr × Obj)) (xe : Value → Shared → Prop) (E : XK) (p1 p2 : Pos), L2N.Takes ((cxOf (L2N.CX P w) P w K mg base ["_law_work", "_law_e"] "_law_kind" sg g cdv A outer s H (fun _ _ _ => False)).tr pn xe) W → (∀ cls d σ' H', E cls d H' → W cls d σ' H') →
      PE ((cxOf (L2N.CX P w) P w K mg base ["_law_work", "_law_e"] "_law_kind" sg g cdv A outer s H (fun _ _ _ => False)).tr pn xe) (.Call (.Name "_law_work" p1) [] [] p2) (fun σZ HZ Q => σZ[0]? = some (some (.ref f)) ∧ HZ c' = some (LamX.CodeO c' q) ∧ tl E HZ Q))
    (hc : H c' = some (LamX.CodeO c' q)) (h : tl (EchN K tbl Q) H fun _ H' => Q (.str "") H') :
    ∃ t, PSs (cxOf (L2N.CX P w) P w K mg base ["_law_work", "_law_e"] "_law_kind" sg g cdv A outer s H (fun _ _ _ => False)) bg t ∧ t { nx := fun _ H' => Q .non H', rt := Q } (L2.start ["_law_work", "_law_e"] [.ref f]) H := by
  obtain ⟨p1, p2, p3, p4, p5, p6, p7, p8, p9, p10, p11, p12, j, rfl⟩ := kb
  have hi : (["_law_work", "_law_e"] : List Str)[1]? = some ("_law_e" : Str) := rfl
  refine ⟨_, pss_cons (L2N.ps_try_as (X := cxOf (L2N.CX P w) P w K mg base ["_law_work", "_law_e"] "_law_kind" sg g cdv A outer s H (fun _ _ _ => False)) (c := .ref CL) (i := 1) (Wout := fun _ _ _ _ => False)
      (tb := fun W D σ H => ∃ Ech : XK, (∀ cls d σ' H', Ech cls d H' → W cls d σ' H') ∧ σ[0]? = some (some (.ref f)) ∧ H c' = some (LamX.CodeO c' q) ∧ tl Ech H fun _ H' => D.nx σ H')
      (ts := fun a cls d => fun D σ H => ∃ C nm, cls = .ref C ∧ d = none ∧ tbl.lookup C = some nm ∧ (∃ σ0 : L2.St, σ = σ0.set 1 (some (.ref a))) ∧ ∃ L, RH K L H ∧ ∀ H', RH K L H' → Ext L H L H' → D.rt (.str nm) H')
      rfl rfl Sg.nd hi hle ⟨hgl, by decide, .inl M.look⟩ takes0N (fun W' pn xe tk' _ => ?_) (fun a oe cls d pn hz hv => ?_)) (pss_one (ps_ret pe_str)), ?_⟩
  · refine ⟨fun pins s' σ H' D I h' => ?_⟩
    obtain ⟨Ech, hW, h1, h2, h3⟩ := h'
    exact (pss_one (ps_expr (pos := p3) (act W' pn xe Ech p1 p2 tk' hW))).run pins s' σ H' D I ⟨h1, h2, h3⟩
  · refine ⟨fun pins s' σ H' D I h => ?_⟩
    obtain ⟨C, nm, rfl, rfl, hC, ⟨σ0, rfl⟩, h2⟩ := h
    have h1 : (σ0.set 1 (some (V.ref a)))[1]? = some (some (.ref a)) := by
      have hl : (σ0.set 1 (some (V.ref a))).length = 2 := I.len
      rw [List.length_set] at hl
      exact List.getElem?_set_self (by omega)
    exact (pss_one (ps_ret (call_nm (X := cxOf (L2N.CX P w) P w K mg base ["_law_work", "_law_e"] "_law_kind" sg g cdv A outer s H (fun _ _ _ => False)) M hr hC hz hv hi hle hgn))).run pins s' _ H' D I ⟨h1, h2⟩
  · refine ⟨EchN K tbl Q, fun cls d σ' H' hE => ?_, rfl, hc, h⟩
    obtain ⟨C, nm, rfl, rfl, hl, L, r, hq⟩ := hE
    exact ⟨true, M.ex _ _ hl, fun _ a ha => ⟨C, nm, rfl, rfl, hl, ⟨σ', rfl⟩, L, r, hq⟩, fun z => by cases z⟩
/-! ### the rule -/
def xLam (tbl : List (Addr × Str)) (x : LTE) : LTE := fun σ L Q _ => x σ L (fun _ L' => Q (.str "") L') fun e L' => match tbl.lookup e.c with
  | some s => e.row = none ∧ Q (.str s) L'
  | none => False
/-- the def that asks: its promise's grounds -/
structure KdOk (P : Program) (w : World) (K : PySem.W.Frag) (mg : Str → Option Value) (base : Heap) (k : Nat) (CL : Addr) (tbl : List (Addr × Str)) : Prop where
  nm : NmOk P w K mg base k CL tbl
  fn : ∃ (g : Addr) (fd : FuncData) (pg : Arguments) (bg : List Stmt) (sg : Scope), mg ("_law_kind" : Str) = some (.ref g) ∧ FunD K "_law_kind" "_law_kind" pg bg sg [] [] g fd ∧ Binds K fd ["_law_work"] [] ∧ FnScope ["_law_work", "_law_e"] ["_law_work"] sg ∧ KindB bg ∧
    sg.names.lookup ("LookError" : Str) = some .globalImplicit ∧ sg.names.lookup ("_law_name" : Str) = some .globalImplicit ∧ sg.names.lookup ("_law_e" : Str) = some .local ∧ Vis sg "_law_work"
section
variable {X : Cx} {k : Nat} {CL P c : Addr} {tbl : List (Addr × Str)}
theorem le_lam {params : Arguments} {body : Expr} {scope : Scope} {p lpos pos : Pos} {x : LTE} (M : KdOk X.prog X.w X.K X.mg X.base (k + 1) CL tbl) (hr : Room (k + 2) X.A)
    (TB : LamX.TabB X.base X.mg c P) (hcode : X.env.code = .ref c) (ht : tabK X.K = [(P, X.env.qual ++ "<lambda>")]) (lm : LamX.LamS X.env.scope scope)
    (hbody : ∀ (A : Around) (outer : List Env) (s : Shared) (H : Hp) (E : XK) (f c' : Addr), Room k (A.deeper (LamX.lamEnv X scope s.heap.objs.size f c')) → LE (lamN X A outer s H E scope f c') body x)
    (hg : Gl X "_law_kind" := by rfl) (hdef : defaultsOf params X.env = ([], []) := by rfl)
    (hbind : ∀ (q : Str) (cl : List (Str × Addr)) (pm cv ctv : Value), bindArgs (PySem.W.kla_fn "<lambda>" q params body scope cl pm cv ctv) ⟨[], []⟩ = pure [] := by intros; rfl) :
    LE X (.Call (.Name "_law_kind" p) [.Lambda params body scope lpos] [] pos) (xLam tbl x) := fun W tk => by
  refine ⟨fun pins s σ H Q I h => ?_⟩
  obtain ⟨σl, L, Ql, El, rh, rs, sv, sx, hx⟩ := h
  obtain ⟨M, g, fd, pg, bg, sg, hm, F, hb, Sg, kb, g1, g2, g3, g4⟩ := M
  have kp := F.kp
  obtain ⟨oc, od, dV, kV, doc, pm, an, cdv, ct, osl, rfl, lk, hcd, _, _⟩ := F.ex
  refine wpAny_Call_Name_kw (ld_glob I hg hm ?_ (by decide))
  refine PySem.W.callWith_K (h₀ := X.base) I.ok.mod.kin kp ?_ (by rfl) (by rfl)
  show wpAny _ _ (spliced ((false, eval (.Lambda params body scope lpos) X.env) :: backTo pos (starEach [] X.env))) _ _ s
  have hmT : (P, X.env.qual ++ "<lambda>") ∈ tabK X.K := by rw [ht]; exact List.mem_singleton.mpr rfl
  have hu : ∀ p ∈ tabK X.K, p.1 = P → p.2 = X.env.qual ++ "<lambda>" := fun p hp _ => by rw [ht] at hp; rw [List.mem_singleton.mp hp]
  refine Calls.spliced_cons (LamX.lam_make2 I TB hcode hmT hu rh.tb hdef (lm.has I.ok) fun f c' pm' ctv H1 s' I1 eN T1 hf hfn hfr hco => ?_)
  refine Calls.spliced_nil ⟨I1.kIn, ?_⟩
  have y1 : Ext L H L H1 := fun p o h1 hn h2 => ⟨h2, eN p o h1 hn⟩
  have rh1 : RH X.K L H1 := ⟨fun a lo e => by
    obtain ⟨o, ho, ro⟩ := rh.at_ a lo e
    exact ⟨o, eN a o ho fun ps z => by rw [z] at ro; exact ro.no_tbl, RO.ext y1 lo o ro⟩, T1, rh.nt⟩
  have rc : codeAny (model X.prog X.w) X.A (.call (.ref g) ⟨[.ref f], []⟩) (CR (L2N.CX X.prog X.w) X.stack X.prog X.w H1 s' Q fun _ _ _ => False) s' := by
    refine LamX.run_ofS (N := ["_law_work", "_law_e"]) (ps := ["_law_work"]) (us := [.ref f]) (vs := [.ref f]) lk hcd Sg hr I1.env0 (hb s' [.ref f] I1.kIn rfl) (.cons rfl .nil) rfl fun hr' => ?_
    refine kind_gives (k := k + 1) (c' := c') (q := X.env.qual ++ "<lambda>") (tl := fun E H' Q' => upE X.K (fun cls d _ H'' => E cls d H'') x σ H' Q') Sg kb g1 g2 g3 M hr' (fun W pn xe E p1 p2 tk hW => act_n (i := 0) I1 lm hf hfn hfr (hbind _ _ _ _ _) tk hW hr' (fun A outer s H hr2 => hbody A outer s H E f c' hr2 _ lamN_takes) rfl g4) hco ?_
    refine ⟨σl, L, fun _ L' => Ql (.str "") L', _, rh1, rs.ext y1, fun l L' v H' r y _ q => sv (.str "") L' (.str "") H' r (y1.trans y) rfl q, fun e L' cls d σ' H' r y rx q => ?_, hx⟩
    have q0 : (match tbl.lookup e.c with
      | some s => e.row = none ∧ Ql (.str s) L'
      | none => False) := q
    cases hl : tbl.lookup e.c with
    | none =>
      rw [hl] at q0
      exact q0.elim
    | some nm =>
      rw [hl] at q0
      obtain ⟨er, q⟩ := q0
      exact ⟨e.c, nm, rx.1, rx.2.1 er, hl, L', r, fun H2 r2 y2 => sv (.str nm) L' (.str nm) H2 r2 ((y1.trans y).trans y2) rfl q⟩
  refine wpAny_call (codeAny_mono rc fun r s2 hq => ?_)
  cases r with
  | error e =>
    obtain ⟨_, _, _, _, _, _, _, _, _, _, _, _, z⟩ := hq
    exact z.elim
  | ok fl =>
    cases fl with
    | ret u => exact I1.after hq
    | next => exact False.elim hq
    | brk => exact False.elim hq
    | cont => exact False.elim hq
end
end LK
set_option Elab.async false
set_option linter.all false
set_option maxRecDepth 100000
set_option maxHeartbeats 2000000
/-! dict.update of a list of pairs whose keys are tuples; a walk over such a table's keys. -/
namespace LK
open PySem PySem.Spec PyProof.Rows L2
/-- the pairs as values: p the pair, its key's tuple, its value -/
abbrev KPs (H : Hp) : List Addr → List (List Key × V) → Prop := Paired fun p kv => ∃ b, H p = some (.tup [.ref b, kv.2]) ∧ H b = some (.tup (kv.1.map kV))
def mergeT {β : Type} (f : List (List Key × β) → List Key → β → List (List Key × β)) (kvs more : List (List Key × β)) : List (List Key × β) := more.foldl (fun acc kv => f acc kv.1 kv.2) kvs
abbrev mtV (kvs more : List (List Key × V)) := mergeT (fun a k v => putK a k v) kvs more
theorem length_mtV : ∀ (more kvs : List (List Key × V)), (mtV kvs more).length ≤ kvs.length + more.length
  | [], _ => Nat.le_refl _
  | (k, v) :: more, kvs => by
    have h1 := length_mtV more (putK kvs k v)
    have h2 := length_putK kvs k v
    show (mtV (putK kvs k v) more).length ≤ _
    rw [List.length_cons]
    omega
theorem kps_obj {P : Program} {w : World} {H : Hp} {h : Heap} (ok : HOk P w H h) : ∀ {ps : List Addr} {ys : List (List Key × V)}, KPs H ps ys → ∃ zs : List (List Key × Addr × Value), KT H ys zs ∧ Paired (fun p z => PairAt h p (.ref z.2.1) z.2.2 ∧ ∃ xs, H p = some (.tup xs)) ps zs
  | _, _, .nil => ⟨[], .nil, .nil⟩
  | _, _, .cons (a := p) (b := kv) r t => by
    obtain ⟨zs, h1, h2⟩ := kps_obj ok t
    obtain ⟨b, e1, e2⟩ := r
    obtain ⟨_, its, rv, o, ho, hc, n, hd⟩ := (show ObjOk P w H h p (.tup [.ref b, kv.2]) from ok p _ e1)
    cases rv with
    | cons r1 rt =>
      cases rt with
      | cons r2 rt =>
        cases rt
        cases r1
        exact ⟨(kv.1, b, _) :: zs, .cons ⟨rfl, e2, r2⟩ h1, .cons ⟨.inl ⟨o, ho, hc, n, hd⟩, _, e1⟩ h2⟩
theorem KT.merge {H : Hp} : ∀ {ys : List (List Key × V)} {zs : List (List Key × Addr × Value)} {kvs : List (List Key × V)} {xs : List (List Key × Addr × Value)}, KT H ys zs → KT H kvs xs → KT H (mtV kvs ys) (storedAllH xs zs)
  | _, _, _, _, .nil, g => g
  | _, _, kvs, xs, .cons (a := kv) (b := z) r t, g => by
    obtain ⟨e, hb, rv⟩ := r
    show KT H (mtV (putK kvs kv.1 kv.2) _) (storedAllH (storedH xs z.1 z.2.1 z.2.2) _)
    rw [← e]
    exact KT.merge t (g.put kv.1 hb rv)
theorem vals_refs : ∀ {ps : List Addr} {its : List Value}, Vals (ps.map V.ref) its → its = ps.map Value.ref
  | [], _, .nil => rfl
  | p :: ps, _, .cons (b := u) r t => by
    have e : u = Value.ref p := r
    rw [e, vals_refs t]
    rfl
section
variable {X : Cx}
def rUpdT : V → List V → Hp → VK → Prop := fun x xs H Q => ∃ a p kvs ps ys, x = .ref a ∧ xs = [.ref p] ∧ H a = some (.dT kvs) ∧ H p = some (.lst (ps.map V.ref)) ∧ KPs H ps ys ∧ kvs.length + ys.length ≤ sizeLine ∧ Q .non (upd H a (.dT (mtV kvs ys)))
theorem mt_updT (hc : X.calm = true) (hu : X.A.units + 64 < cLine) : MtR X "dict.update" rUpdT := by
  intro pins s σ H x xs v us Q I rx rs h
  obtain ⟨a, p, kvs, ps, ys, rfl, rfl, e, e2, pk, hl, q⟩ := h
  obtain rfl : v = Value.ref a := rx
  obtain ⟨u, rfl, ru⟩ := vals1 rs
  obtain rfl : u = Value.ref p := ru
  obtain ⟨z, hd, acc, rel, dd⟩ := dt_of I.hok e
  obtain ⟨_, its, n, rv, ho⟩ := (show ObjOk X.prog X.w H s.heap p (.lst (ps.map V.ref)) from I.hok p _ e2)
  obtain ⟨zs, kt, pr⟩ := kps_obj I.hok pk
  have lz : ps.length = zs.length := Paired.length pr
  have ly : ys.length = zs.length := Paired.length kt
  have lk : kvs.length = acc.length := Paired.length rel
  have hits : its = ps.map Value.ref := vals_refs rv
  subst hits
  let Ts : Nat → Addr := fun j => (ps[j]?).getD 0
  let prs : List (Value × Value) := zs.map fun z => (Value.ref z.2.1, z.2.2)
  have hpl : prs.length = zs.length := List.length_map ..
  have hat : ∀ j k v, prs[j]? = some (k, v) → ∃ (pj : Addr) (zj : List Key × Addr × Value), ps[j]? = some pj ∧ zs[j]? = some zj ∧ k = .ref zj.2.1 ∧ v = zj.2.2 ∧ PairAt s.heap pj k v ∧ ∃ xs, H pj = some (.tup xs) := fun j k v ej => by
    rw [List.getElem?_map] at ej
    obtain ⟨zj, ez, ev⟩ := Option.map_eq_some_iff.mp ej
    obtain ⟨hj, _⟩ := List.getElem?_eq_some_iff.mp ez
    have hj' : j < ps.length := by omega
    have ep : ps[j]? = some ps[j] := List.getElem?_eq_getElem hj'
    obtain ⟨zj', ez', pa, xs, hx⟩ := paired_get pr ep
    rw [ez] at ez'
    cases ez'
    cases ev
    exact ⟨_, zj, ep, ez, rfl, rfl, pa, xs, hx⟩
  have nd : ∀ b o, H b = some o → (∀ kvs, o ≠ .dT kvs) → b ≠ a := fun b o eb no z => by
    rw [z, e] at eb
    exact no _ (Option.some.inj eb).symm
  have PA := PairArg.list (prog := X.prog) (w := X.w) p (ps.map Value.ref).toArray Ts prs
  refine call_update_pairsH (knd := tupleKind (mixKind X.prog X.w)) (acc := acc) (ps := zs) PA (I.ok.hd hc) (tupleKind_room_in1 (by omega)) ⟨⟨_, n, ho, rfl, rfl, rfl⟩, ?_, ?_⟩ ?_ ⟨by rw [hpl], ?_⟩ ?_ dd ?_ ?_
  · simp [hpl, lz]
  · intro j k v ej
    obtain ⟨pj, zj, e3, e4, rfl, rfl, pa, _⟩ := hat j k v ej
    have et : Ts j = pj := by
      show (ps[j]?).getD 0 = pj
      rw [e3]
      rfl
    rw [et]
    refine ⟨?_, pa⟩
    simp [e3]
  · intro hm
    rcases List.mem_cons.mp hm with z1 | z1
    · exact nd p _ e2 (fun _ => nofun) z1.symm
    · obtain ⟨j, hj, ej⟩ := List.mem_map.mp z1
      have hj' : j < prs.length := List.mem_range.mp hj
      obtain ⟨pj, zj, e3, _, _, _, _, xs, hx⟩ := hat j prs[j].1 prs[j].2 (List.getElem?_eq_getElem hj')
      have et : Ts j = pj := by
        show (ps[j]?).getD 0 = pj
        rw [e3]
        rfl
      exact nd pj _ hx (fun _ => nofun) (et ▸ ej)
  · intro i key v ej
    obtain ⟨pj, zj, e3, e4, rfl, rfl, _⟩ := hat i key v ej
    exact ⟨zj.1, zj.2.1, e4, rfl⟩
  · intro h' hk x hx
    have all : ∀ {l : List (List Key × V)} {m : List (List Key × Addr × Value)}, KT H l m → ∀ x ∈ m, (tupleKind (mixKind X.prog X.w)).is h' x.1 x.2.1 := by
      intro l m q
      induction q with
      | nil => intro x hx; exact nomatch hx
      | @cons p q ps qs hq t ih =>
        intro x hx
        rcases List.mem_cons.mp hx with e | hx
        · subst e
          have hq2 : H x.2.1 = some (.tup (x.1.map kV)) := by rw [← hq.1]; exact hq.2.1
          obtain ⟨o, its, n, h1, r⟩ := key_of I.hok hq2
          exact ⟨o, its, n, hk _ _ (nd _ _ hq2 fun _ => nofun) (by simp) h1, r⟩
        · exact ih x hx
    rcases List.mem_append.mp hx with z1 | z1
    · exact all rel x z1
    · exact all kt x z1
  · rw [hpl]
    omega
  · intro h' tk dd' hk
    refine ⟨.non, _, I.write (x := a) (e := a) (t' := tk) (by rw [e]; exact True.intro) (.inl rfl) (fun b q hb z => hk b q hb (by simp) z) (let ⟨q, _, _, hq, _⟩ := dd'; ⟨q, hq⟩) ?_, rfl, q⟩
    obtain ⟨q, es, ep, hq, h2, h3, h4, _, h5⟩ := dd'
    refine ⟨?_, hd, _, ((KT.merge kt rel).keeps fun c ys ec => ?_), q, es, ep, hq, h2, h3, h4, h5⟩
    · have := length_mtV ys kvs
      omega
    · rw [upd_ne (ne_of ec e (fun z => nomatch z))]
      exact ec
def prsT : List LV → Option (List (List Key × LV))
  | [] => some []
  | .tup [.tup ks, b] :: r => match lKeys ks, prsT r with
    | some k, some kvs => some ((k, b) :: kvs)
    | _, _ => none
  | _ :: _ => none
abbrev mtL (kvs more : List (List Key × LV)) := mergeT (fun a k v => pl a k v) kvs more
theorem prsT_sim {K : PySem.W.Frag} {L : LHp} {H : Hp} : ∀ {ls : List LV} {xs : List V} {kvs : List (List Key × LV)}, RVs K L H ls xs → prsT ls = some kvs → ∃ (ps : List Addr) (ys : List (List Key × V)), xs = ps.map V.ref ∧ KPs H ps ys ∧ RKV K L H kvs ys
  | [], xs, kvs, r, e => by
    unfold RVs at r
    have e' : ([] : List (List Key × LV)) = kvs := Option.some.inj e
    rw [r, ← e']
    exact ⟨[], [], rfl, .nil, rfl⟩
  | l :: ls, xs, kvs, r, e => by
    unfold RVs at r
    obtain ⟨y, q, rfl, h1, h2⟩ := r
    unfold prsT at e
    split at e
    · rename_i hnil; cases hnil
    · rename_i ks b r' heq
      obtain ⟨e1, e2⟩ := List.cons.inj heq
      subst e1 e2
      cases e3 : lKeys ks with
      | none => simp only [e3] at e; cases e
      | some k =>
        cases e4 : prsT ls with
        | none => simp only [e3, e4] at e; cases e
        | some kvs' =>
          simp only [e3, e4] at e
          have e' : (k, b) :: kvs' = kvs := Option.some.inj e
          obtain ⟨ps, ys, q1, q2, q3⟩ := prsT_sim h2 e4
          obtain ⟨p, zs, rfl, f, rz⟩ := h1.tup_inv
          obtain ⟨z1, z2, rfl, ra, rb⟩ := rz.two
          obtain ⟨t, us, rfl, f2, ru⟩ := ra.tup_inv
          rw [← e']
          exact ⟨p :: ps, (k, z2) :: ys, by rw [q1]; rfl, .cons ⟨t, f.2, by rw [f2.2, lKeys_sim e3 ru]⟩ q2, .cons rb q3⟩
    · cases e
theorem RKV.mergeT' {K : PySem.W.Frag} {L : LHp} {H : Hp} : ∀ {more : List (List Key × LV)} {rs : List (List Key × V)} {kvs : List (List Key × LV)} {vs : List (List Key × V)}, RKV K L H more rs → RKV K L H kvs vs → RKV K L H (mtL kvs more) (mtV vs rs)
  | [], rs, kvs, vs, h, g => by
    have e : rs = [] := h
    rw [e]; exact g
  | (k, l) :: more, rs, kvs, vs, h, g => by
    obtain ⟨v, r, rfl, h1, h2⟩ := h
    show RKV K L H (mtL (pl kvs k l) more) (mtV (putK vs k v) r)
    exact RKV.mergeT' h2 (g.put k h1)
def lUpdT : LM := fun a as L Q => match a, as with
  | .ref p, [.lst ls] => match L p, prsT ls with
    | some (.dtt kvs), some more => kvs.length + more.length ≤ sizeLine ∧ Q .non (lup L p (.dtt (mtL kvs more)))
    | _, _ => False
  | _, _ => False
theorem m_updT (hc : X.calm = true) (hu : X.A.units + 64 < cLine) : MtL X "dict.update" lUpdT := ⟨_, mt_updT hc hu, fun L H a as x xs Ql Q rh ra ras s h => by
  unfold lUpdT at h
  split at h
  · rename_i p ls
    obtain ⟨v, rfl, rv⟩ := ras.one
    split at h
    · rename_i kvs more q q2
      obtain ⟨ys, hy, ry⟩ := rh.dtt q
      obtain ⟨t, xs, rfl, f, rx⟩ := rv.lst_inv
      obtain ⟨ps, zs, rfl, kp, rz⟩ := prsT_sim rx q2
      refine ⟨p, t, ys, ps, zs, ra.ref_inv, rfl, hy, f.2, kp, by rw [ry.length, rz.length]; exact h.1, ?_⟩
      exact s .non _ _ _ (rh.upd (lo := .dtt (mtL kvs more)) (some_ne q) ⟨_, rfl, RKV.mergeT' rz ry⟩) (Ext.upd (some_ne q)) rfl h.2
    · exact h.elim
  · exact h.elim⟩
/-! ### an expression while a table is read alone -/
def xLk (x : LTE) : LTE := fun σ L Q _ => ∃ p kvs, L p = some (.dtt kvs) ∧ ∀ od ys, x σ (lup L p (.fdt od ys kvs)) (fun v L' => L' p = some (.fdt od ys kvs) ∧ Q v (lup L' p (.dtt kvs))) (fun _ _ => False)
theorem le_lk {e : Expr} {x : LTE} (h : LE X e x) : LE X e (xLk x) := fun W tk => by
  refine pe_weak (pe_lock (h W tk)) fun σ H Q h => ?_
  obtain ⟨σl, L, Ql, El, rh, rs, s, sx, p, kvs, hp, h⟩ := h
  obtain ⟨ys, hy, ry⟩ := rh.dtt hp
  refine ⟨p, .dT ys, hy, True.intro, fun od => ?_⟩
  have y0 : Ext L H (lup L p (.fdt od ys kvs)) (upd H p (.frz od (.dT ys))) := Ext.upd (some_ne hp)
  have r0 : RH X.K (lup L p (.fdt od ys kvs)) (upd H p (.frz od (.dT ys))) := rh.upd (some_ne hp) ⟨rfl, ry⟩
  refine ⟨σl, _, fun v L' => L' p = some (.fdt od ys kvs) ∧ Ql v (lup L' p (.dtt kvs)), fun _ _ => False, r0, rs.ext y0, fun l L' v H' r y rv q => ?_, fun _ _ _ _ _ _ _ _ _ z => z.elim, h od ys⟩
  obtain ⟨q1, q2⟩ := q
  obtain ⟨u, hu, eu, ry'⟩ := r.at_ p _ q1
  subst eu
  refine ⟨hu, ?_⟩
  have y1 : Ext L' H' (lup L' p (.dtt kvs)) (upd H' p (.dT ys)) := Ext.upd (some_ne q1)
  exact s l _ v _ (r.upd (lo := .dtt kvs) (some_ne q1) ⟨ys, rfl, ry'⟩) ((y0.trans y).trans y1) (RV.ext y1 l v rv) q2
/-! ### its keys, one by one -/
theorem kL_sim {K : PySem.W.Frag} {L : LHp} {H : Hp} : ∀ ks : List Key, RVs K L H (ks.map kL) (ks.map kV)
  | [] => .nil
  | .inl i :: ks => .cons (show RV K L H (.int i) (.int i) from rfl) (kL_sim ks)
  | .inr i :: ks => .cons (show RV K L H (.str i) (.str i) from rfl) (kL_sim ks)
theorem RO.no_tup {K : PySem.W.Frag} {L : LHp} {H : Hp} {lo : LO} {xs : List V} (h : RO K L H lo (.tup xs)) : False := by
  cases lo with
  | lst ls => obtain ⟨_, e, _⟩ := h; cases e
  | dct ls => obtain ⟨_, e, _⟩ := h; cases e
  | dtt ls => obtain ⟨_, e, _⟩ := h; cases e
  | fdt od ys ls => obtain ⟨e, _⟩ := h; cases e
  | ins C fs => obtain ⟨_, _, e, _⟩ := h; cases e
theorem RH.untr {K : PySem.W.Frag} {L : LHp} {H : Hp} (r : RH K L H) {p : Addr} {xs : List V} (h : H p = some (.tup xs)) : L p = none := by
  cases e : L p with
  | none => rfl
  | some lo =>
    obtain ⟨o, q, ro⟩ := r.at_ p lo e
    rw [h] at q
    cases q
    exact ro.no_tup.elim
def iKeyT (x : LTE) : LTI := fun σ L R E => x σ L (fun a L1 => match a with
  | .ref p => ∃ od ys kvs, L1 p = some (.fdt od ys kvs) ∧ R (kvs.map fun kv => LV.tup (kv.1.map kL)) (fun L' => L' p = some (.fdt od ys kvs)) L1
  | _ => False) E
theorem li_keyT {tg e : Expr} {x : LTE} (h : LE X e x) : LI X tg e (iKeyT x) := fun W tk => by
  refine pi_weak (pi_keys (h W tk)) fun σ H R h => ?_
  obtain ⟨σl, L, Rl, El, rh, rs, sx, k, h⟩ := h
  refine ⟨σl, L, _, El, rh, rs, fun a L1 v H1 r1 y1 ra h1 => ?_, sx, h⟩
  cases a with
  | ref p =>
    obtain ⟨od, ys, kvs, q, h1⟩ := h1
    rw [ra.ref_inv]
    obtain ⟨u, hu, eu, ry⟩ := r1.at_ p _ q
    subst eu
    have ln : ys.length = kvs.length := ry.length
    have kk := ry.keys
    refine ⟨p, od, rfl, .inr ⟨ys, hu, k _ _ L1 H1 _ r1 y1 ⟨fun i L' H' l r y st e => ?_, fun i L' H' r y st e => ?_⟩ q h1⟩⟩
    · obtain ⟨u, hu', eu, ry'⟩ := r.at_ p _ st
      subst eu
      have hi : i < kvs.length := by
        have := (List.getElem?_eq_some_iff.mp e).1
        simpa using this
      refine ⟨⟨hu', by omega⟩, fun x H'' yl => ⟨yl.1, ?_⟩⟩
      obtain ⟨_, ks, v, qa, e1, rfl, e3⟩ := yl
      have e4 : (kvs.map (·.1))[i]? = some ks := by
        rw [← kk, List.getElem?_map, e1]
        rfl
      rw [List.getElem?_map] at e e4
      obtain ⟨kv, e5, e6⟩ := Option.map_eq_some_iff.mp e
      rw [e5] at e4
      have e7 : kv.1 = ks := Option.some.inj e4
      rw [← e6, e7]
      exact .of_tup ⟨r.untr e3, e3⟩ (kL_sim ks)
    · obtain ⟨u, hu', eu, ry'⟩ := r.at_ p _ st
      subst eu
      refine ⟨hu', ?_⟩
      rw [List.length_map] at e
      omega
  | _ => exact h1.elim
end
end LK
set_option Elab.async false
set_option linter.all false
set_option maxRecDepth 100000
set_option maxHeartbeats 2000000
/-! _law_kind(lambda a=0: ..): a lambda with one parameter that stands for its default. -/
namespace LK
open PySem PySem.Spec PyProof.Rows L2
/-- a code object more in the table -/
abbrev tabMore (H : Hp) (P : Addr) (ps : Array Value) (pos : Pos) (c : Addr) (q : Str) : Hp := upd (upd H P (.tbl (ps ++ #[rawInt pos.line, rawInt pos.col, .ref c]))) c (LamX.CodeO c q)
theorem more_ext {H : Hp} {P c : Addr} {ps : Array Value} {pos : Pos} {q : Str} (hP : H P = some (.tbl ps)) (hc : H c = none) : LamX.ExtN H (tabMore H P ps pos c q) := fun b o hb nt => by
  have bc : b ≠ c := fun e => by rw [e, hc] at hb; cases hb
  have bP : b ≠ P := fun e => by
    rw [e, hP] at hb
    exact nt ps (Option.some.inj hb).symm
  simp only [tabMore, upd, if_neg bc, if_neg bP, hb]
theorem more_tabs {H : Hp} {P c : Addr} {ps : Array Value} {pos : Pos} {q : Str} {T : List (Addr × Str)} (hP : H P = some (.tbl ps)) (hc : H c = none) (tb : LamX.Tabs T H) (hm : (P, q) ∈ T) (hu : ∀ p ∈ T, p.1 = P → p.2 = q) : LamX.Tabs T (tabMore H P ps pos c q) := fun p hp => by
  have ex := more_ext (pos := pos) (q := q) hP hc
  obtain ⟨qs, g1, g2, g3⟩ := tb p hp
  have pc : p.1 ≠ c := fun e => by rw [e, hc] at g1; cases g1
  by_cases e : p.1 = P
  · rw [e, hP] at g1
    cases g1
    refine ⟨ps ++ #[rawInt pos.line, rawInt pos.col, .ref c], by rw [e]; simp only [tabMore, upd, if_neg (show P ≠ c from e ▸ pc), if_true], ?_, fun at_ cv hcv => ?_⟩
    · rw [Array.toList_append]
      exact PySem.TriplesOk_snoc _ _ _ _ g2
    · rw [Array.toList_append] at hcv
      rcases LamX.among_app _ g2 hcv with z | z
      · obtain ⟨c0, z1, z2⟩ := g3 at_ cv z
        exact ⟨c0, z1, ex c0 _ z2 LamX.codeO_ne⟩
      · exact ⟨c, z, by rw [hu p hp e]; simp only [tabMore, upd, if_true]⟩
  · refine ⟨qs, by simp only [tabMore, upd, if_neg pc, if_neg e, g1], g2, fun at_ cv hcv => ?_⟩
    obtain ⟨c0, z1, z2⟩ := g3 at_ cv hcv
    exact ⟨c0, z1, ex c0 _ z2 LamX.codeO_ne⟩
section
variable {X : Cx} {pins : List (Addr × Obj)} {σ : L2.St} {H : Hp} {s : Shared}
theorem new_frs (I : Inv X pins σ H s) {b : Addr} (hb : s.heap.objs.size ≤ b) : b ∉ frs X.stack := fun hm => by
  rcases List.mem_cons.mp (I.stkSub b hm) with e | e
  · have l : X.env.locals < s.heap.objs.size := I.lt
    have e' : b = X.env.locals := e
    exact Nat.lt_irrefl _ (Nat.lt_of_lt_of_le (e' ▸ l) hb)
  · exact I.nofs hb e
/-- what stands once the lambda is made: its object at f, its code object at c, its defaults' tuple at t -/
structure Made (X : Cx) (pins : List (Addr × Obj)) (σ : L2.St) (H : Hp) (T : List (Addr × Str)) (params : Arguments) (body : Expr) (scope : Scope) (f c t : Addr) (u doc pm ctv : Value) (H1 : Hp) (s1 : Shared) : Prop where
  inv : Inv X pins σ H1 s1
  ext : LamX.ExtN H H1
  tabs : LamX.Tabs T H1
  tup : s1.heap.get? t = some (PySem.W.kdv_tup [u]) ∧ H1 t = none ∧ t ∉ frs X.stack
  fn : s1.heap.get? f = some (PySem.W.kdv_obj "<lambda>" (X.env.qual ++ "<lambda>") params (.expr body) scope (cloFrom X.env.cells scope.names []) (.ref t) doc pm c ctv) ∧ H1 f = none ∧ f ∉ frs X.stack
  cod : H1 c = some (LamX.CodeO c (X.env.qual ++ "<lambda>"))
theorem made_eval {T : List (Addr × Str)} {c P : Addr} {params : Arguments} {body : Expr} {scope : Scope} {pos p0 : Pos} {d : Int} {j0 : Nat} {E : Value → Shared → Prop} {Q : Value → Shared → Prop} (I : Inv X pins σ H s) (TB : LamX.TabB X.base X.mg c P) (hcode : X.env.code = .ref c)
    (hm : (P, X.env.qual ++ "<lambda>") ∈ T) (hu : ∀ p ∈ T, p.1 = P → p.2 = X.env.qual ++ "<lambda>") (tb : LamX.Tabs T H) (hd : params.defaults = [.Constant (.int d) j0 p0]) (hk : params.kw_defaults = []) (hf : ∀ y ∈ scope.names, y.2 = .free → ∃ c, X.env.cells.lookup y.1 = some c)
    (h : ∀ f c' t u doc pm ctv H1 s1, Made X pins σ H T params body scope f c' t u doc pm ctv H1 s1 → Q (.ref f) s1) : wpAny (model X.prog X.w) X.A (eval (.Lambda params body scope pos) X.env) Q E s := by
  refine PySem.W.kdv_lam (by rw [hd]; rfl) hk ?_
  rw [hd]
  refine PySem.W.kdv_all1 (wpAny_Constant_int (PySem.W.kdv_all0 ?_))
  rw [makeFunction_eq]
  simp only [List.zip_nil_right, List.filterMap_nil, List.isEmpty_nil, List.isEmpty_cons, if_true, pure_bind, Bool.false_eq_true, if_false]
  refine wpAny_bind (wpAny_newTextTuple ?_)
  have I2 : Inv X pins σ H { s with heap := s.heap.push (PySem.W.kdv_tup [.int d s.toks]), toks := s.toks + 1 } := I.kept fun b o e => Heap.get?_push_of_some _ e
  have t0 : H s.heap.objs.size = none := I.hok.fresh (Nat.le_refl _)
  have t1 := new_frs I (Nat.le_refl _)
  have tg : (s.heap.push (PySem.W.kdv_tup [.int d s.toks])).get? s.heap.objs.size = some (PySem.W.kdv_tup [.int d s.toks]) := Heap.get?_push_size _ rfl
  have tl : s.heap.objs.size < (s.heap.push (PySem.W.kdv_tup [.int d s.toks])).objs.size := by rw [Heap.size_push]; omega
  generalize s.heap.objs.size = t at *
  obtain ⟨ps, hP, g2, g3⟩ := tb _ hm
  have hPo := I2.hok P _ hP
  have hPl : P < (s.heap.push (PySem.W.kdv_tup [.int d s.toks])).objs.size := Heap.lt_size hPo
  have bl := TB.bm.keeps I2.bk
  have gl := I2.mod.glob.keeps I2.bk
  have cd := TB.code.keeps I2.bk
  cases hc : codeAmong pos ps.toList with
  | some cv =>
    obtain ⟨c', rfl, hco⟩ := g3 pos cv hc
    refine PySem.W.kdv_makeTailHit (mg := X.mg) (closure_ok hf) I2.ok.glob gl hcode cd hPo g2 hc bl fun ctv doc h' tk kp hz => ?_
    refine h _ c' t (.int d s.toks) doc _ ctv H _ ⟨I2.kept fun b o e => Heap.get?_push_of_some _ (kp b o e), LamX.ExtN.refl H, tb, ⟨Heap.get?_push_of_some _ (kp t _ tg), t0, t1⟩, ⟨Heap.get?_push_size _ rfl, I2.hok.fresh hz, new_frs I2 hz⟩, hco⟩
  | none =>
    refine PySem.W.kdv_makeTail (mg := X.mg) (closure_ok hf) I2.ok.glob gl hcode cd hPo g2 hc TB.gP bl fun c' ctv doc h' tk kp lo hi rec htb => ?_
    obtain ⟨_, oc, vs, tq, e, z1, z2, z3⟩ := rec
    cases e
    have lo : (s.heap.push (PySem.W.kdv_tup [.int d s.toks])).objs.size ≤ c' := lo
    have hc0 : H c' = none := I2.hok.fresh lo
    have lo2 : (s.heap.push (PySem.W.kdv_tup [.int d s.toks])).objs.size ≤ h'.objs.size := by omega
    have tP : t ≠ P := fun z => by rw [z, hP] at t0; cases t0
    have fP : h'.objs.size ≠ P := fun z => Nat.lt_irrefl _ (Nat.lt_of_lt_of_le hPl (z ▸ lo2))
    have out : ∀ b, b ≠ P → b ≠ c' → tabMore H P ps pos c' (X.env.qual ++ "<lambda>") b = H b := fun b n1 n2 => by simp only [tabMore, upd, if_neg n1, if_neg n2]
    refine h _ c' t (.int d s.toks) doc _ ctv (tabMore H P ps pos c' (X.env.qual ++ "<lambda>")) _ ⟨LamX.inv_table I2 hP (fun b o nb e => Heap.get?_push_of_some _ (kp b o nb e)) (Heap.get?_push_of_some _ htb) lo ⟨oc, vs, tq, Heap.get?_push_of_some _ z1, z2, z3⟩,
      more_ext hP hc0, more_tabs hP hc0 tb hm hu, ⟨Heap.get?_push_of_some _ (kp t _ tP tg), by rw [out t tP (Nat.ne_of_lt (Nat.lt_of_lt_of_le tl lo))]; exact t0, t1⟩, ⟨Heap.get?_push_size _ rfl, by rw [out _ fP (Nat.ne_of_gt hi)]; exact I2.hok.fresh lo2, new_frs I2 lo2⟩, by simp only [tabMore, upd, if_true]⟩
end
/-! ### within the lambda -/
/-- the lambda's names: its parameter a, captured ones, globals -/
structure LamDS (sc scope : Scope) (a : Str) : Prop where
  kind : scope.kind = .function
  flat : scope.isCoroutine = false ∧ scope.isGenerator = false
  par : scope.names.lookup a = some .local
  own : ∀ y ∈ scope.names, y.2 ≠ .cell ∧ (y.2 = .local → y.1 = a)
  free : ∀ y ∈ scope.names, y.2 = .free → sc.names.lookup y.1 = some .cell ∨ sc.names.lookup y.1 = some .free
def lamDB (sc scope : Scope) (a : Str) : Bool :=
  decide (scope.kind = .function) && (!scope.isCoroutine && !scope.isGenerator) && decide (scope.names.lookup a = some .local) && scope.names.all fun y => (!decide (y.2 = .cell) && (!decide (y.2 = .local) || y.1 == a)) && (!decide (y.2 = .free) || (decide (sc.names.lookup y.1 = some .cell) || decide (sc.names.lookup y.1 = some .free)))
theorem lamDS_by {sc scope : Scope} {a : Str} (h : lamDB sc scope a = true) : LamDS sc scope a := by
  simp only [lamDB, Bool.and_eq_true, Bool.or_eq_true, Bool.not_eq_true', decide_eq_true_eq, decide_eq_false_iff_not, List.all_eq_true, beq_iff_eq] at h
  obtain ⟨⟨⟨h1, h2⟩, h3⟩, h4⟩ := h
  exact ⟨h1, h2, h3, fun y hy => ⟨(h4 y hy).1.1, fun e => (h4 y hy).1.2.resolve_left fun z => z e⟩, fun y hy e => (h4 y hy).2.resolve_left fun z => z e⟩
section
variable {X : Cx} {pins : List (Addr × Obj)} {σ : L2.St} {H HZ : Hp} {s s1 : Shared} {scope : Scope} {a : Str}
theorem LamDS.has (L : LamDS X.env.scope scope a) (ok : X.Ok) : ∀ y ∈ scope.names, y.2 = .free → ∃ c, X.env.cells.lookup y.1 = some c := fun y hy e => ok.has y.1 (L.free y hy e)
theorem clo_sub (hf : ∀ y ∈ scope.names, y.2 = .free → ∃ c, X.env.cells.lookup y.1 = some c) {y : Str} {c : Addr} (e : (cloFrom X.env.cells scope.names []).lookup y = some c) : X.env.cells.lookup y = some c := by
  rcases cloFrom_mem (PySem.mem_of_lookup e) with z | ⟨z, rfl⟩
  · exact nomatch z
  · obtain ⟨d, hd⟩ := hf _ z rfl
    have hd' : X.env.cells.lookup y = some d := hd
    rw [hd']
    rfl
theorem startD {A : Around} {outer : List Env} {E : XK} {f c' : Addr} {h₁ : Heap} {tk : Nat} {u : Value} (I : Inv X pins σ H s) (L : LamDS X.env.scope scope a) (ha : a ∉ X.N) (e0 : Env0 X.prog X.w X.K X.mg X.base A outer s1 HZ) (hd : A.handled = none)
    (un : Un (frs X.stack) [] H HZ s.heap s1.heap) (hns : h₁.Ns s1.heap.objs.size fun y => ([(a, u)] : List (Str × Value)).reverse.lookup y) (kp : ∀ b o, s1.heap.get? b = some o → h₁.get? b = some o) :
    Inv (LamX.lamCx X A outer s1 HZ E scope f c') [] σ HZ { s1 with heap := h₁, toks := tk } := by
  have hf := L.has I.ok
  have cellK : ∀ {y : Str} {c : Addr} {v : Option Value}, X.env.cells.lookup y = some c → s.heap.IsCell c v → h₁.IsCell c v := fun {y c v} hy ⟨o, ho, hv⟩ => by
    obtain ⟨sl, q⟩ := un.any ho (I.freeC y c hy) (by simp)
    exact ⟨_, kp _ _ q, hv⟩
  have isFree : ∀ {y : Str}, scope.names.lookup y = some .free → (y, NameKind.free) ∈ scope.names := fun e => PySem.mem_of_lookup e
  have inClo : ∀ {y : Str}, scope.names.lookup y = some .free → ∃ c, (cloFrom X.env.cells scope.names []).lookup y = some c := fun e => mem_lookup (cloFrom_has (isFree e))
  have none_ : ∀ {b : Addr} {R : Prop}, b ∈ ([] : List Addr) → R := fun z => nomatch z
  refine
    { ok :=
        { mod := e0.mod, kind := L.kind, glob := rfl, blt := rfl, above := Nat.le_refl _, inj := fun y z c q1 q2 => I.ok.inj y z c (clo_sub hf q1) (clo_sub hf q2),
          has := fun y hy => ?has, cab := fun y c z _ => (nomatch (show false = true from z)), hd := fun _ => hd, frames := Around.frames_deeper e0.frames, stk := .inr ⟨rfl, rfl⟩, exf := fun b z => none_ z,
          bs := e0.bs, bsz := e0.bsz, noex := fun b _ _ z => none_ (b := b) z, exfs := fun b z => none_ z, funs := e0.funs, frf := e0.frf }
      os := rfl, bare := e0.bare, base := Un.kept kp, loc := ⟨_, hns, fun i y v q1 q2 q3 => ?loc⟩, cell := fun y c q => ?cell, free := e0.hok.fresh (Nat.le_refl _), freeC := fun y c q => ?freeC,
      pin := fun q hq => absurd (show q ∈ ([] : List (Addr × Obj)) ++ [] from hq) (by simp), hok := e0.hok.kept kp, len := I.len }
  case has =>
    have hy : scope.names.lookup y = some .cell ∨ scope.names.lookup y = some .free := hy
    rcases hy with z | z
    · exact absurd rfl (L.own _ (PySem.mem_of_lookup z)).1
    · exact inClo z
  case loc =>
    have q3 : Vis scope y := q3
    rcases q3 with z | z | z
    · have e : y = a := (L.own _ (PySem.mem_of_lookup z)).2 rfl
      have q1 : X.N[i]? = some y := q1
      rw [e] at q1
      exact absurd (List.mem_of_getElem? q1) ha
    · exact absurd rfl (L.own _ (PySem.mem_of_lookup z)).1
    · obtain ⟨m, _, hl⟩ := I.loc
      have hk := L.free _ (isFree z) rfl
      obtain ⟨w', r, q⟩ := hl i y v q1 q2 (.inr hk)
      obtain ⟨c2, hc2⟩ := inClo z
      refine ⟨w', r, .inr ⟨.inr z, c2, hc2, ?_⟩⟩
      have hc1 := clo_sub hf hc2
      rcases q with ⟨k, _⟩ | ⟨_, c3, k, q⟩
      · have k : X.env.scope.names.lookup y = some .local := k
        have hk : X.env.scope.names.lookup y = some .cell ∨ X.env.scope.names.lookup y = some .free := hk
        rw [k] at hk
        rcases hk with z | z <;> cases z
      · rw [hc1] at k
        cases k
        exact cellK hc1 q
  case cell =>
    obtain ⟨v, z⟩ := I.cell y c (clo_sub hf q)
    exact ⟨v, cellK (clo_sub hf q) z⟩
  case freeC =>
    have hc := clo_sub hf q
    obtain ⟨v, o, ho, _⟩ := I.cell y c hc
    exact un.free c o ho (I.freeC y c hc) (by simp)
/-- how the parameter is bound: by its default -/
def BindD (params : Arguments) (body : Expr) (scope : Scope) (a : Str) : Prop := ∀ (q : Str) (cl : List (Str × Addr)) (t : Addr) (u doc pm cv ctv : Value), ∃ k, bindArgs (PySem.W.kdv_fn "<lambda>" q params (.expr body) scope cl (.ref t) doc pm cv ctv) ⟨[], []⟩ = seqItems? (.ref t) >>= k ∧ k (some #[u]) = pure [(a, u)]
/-- the lambda is asked, in the def that got it -/
theorem actD {CXg : CXT} {Eg : XK} {Ng : List Str} {qg : Str} {sg : Scope} {g f c' t : Addr} {cdg u doc pm ctv : Value} {params : Arguments} {body : Expr} {k i : Nat} {n : Str} {pn : List (Addr × Obj)} {xe : Value → Shared → Prop} {W : WX} {E : XK} {tb : TE} {p1 p2 : Pos} {T : List (Addr × Str)} {H0 : Hp}
    (M : Made X pins σ H0 T params body scope f c' t u doc pm ctv H s) (L : LamDS X.env.scope scope a) (ha : a ∉ X.N) (hb : BindD params body scope a)
    (tk : L2N.Takes ((cxOf CXg X.prog X.w X.K X.mg X.base Ng qg sg g cdg X.A X.stack s H Eg).tr pn xe) W) (hW : ∀ cls d σ' H', E cls d H' → W cls d σ' H') (hr : Room (k + 1) (X.A.deeper (envOfC qg sg s.heap.objs.size g cdg)))
    (hbody : ∀ (A : Around) (outer : List Env) (s : Shared) (H : Hp), Room k (A.deeper (LamX.lamEnv X scope s.heap.objs.size f c')) → PE (lamN X A outer s H E scope f c') body tb)
    (hn : Ng[i]? = some n) (hv : Vis sg n) (hdb : (n == ("__debug__" : Str)) = false := by decide) (hcd : (n == ("__classdict__" : Str)) = false := by decide) :
    PE ((cxOf CXg X.prog X.w X.K X.mg X.base Ng qg sg g cdg X.A X.stack s H Eg).tr pn xe) (.Call (.Name n p1) [] [] p2)
      (fun σZ HZ Q => σZ[i]? = some (some (.ref f)) ∧ HZ c' = some (LamX.CodeO c' (X.env.qual ++ "<lambda>")) ∧ tb σ HZ Q) := ⟨fun pins2 s2 σ2 H2 Q I2 ⟨g1, g2, g3⟩ => by
  have pass : Passes (L2N.CX X.prog X.w) ((cxOf CXg X.prog X.w X.K X.mg X.base Ng qg sg g cdg X.A X.stack s H Eg).tr pn xe) E := L2N.passes_call tk hW
  refine wpAny_Call_Name_kw (thn ((pe_var (pos := p1) (i := i) hn hv hdb hcd).run pins2 s2 σ2 H2 (fun v H3 => v = .ref f ∧ H3 = H2) I2 ⟨.ref f, g1, rfl, rfl⟩) fun u3 s3 ⟨v, H3, I3, rv, q⟩ => ?_)
  obtain ⟨rfl, rfl⟩ := q
  cases rv
  obtain ⟨f1, f2, f3⟩ := M.fn
  obtain ⟨t1, t2, t3⟩ := M.tup
  have fn3 := I3.base.keep f _ f1 f2 f3 (fun z => nomatch z)
  have tu3 := I3.base.keep t _ t1 t2 t3 (fun z => nomatch z)
  obtain ⟨⟨oc, vs, tq, o1, o2, o3⟩, _, _⟩ := I3.hok c' _ g2
  refine PySem.W.callWith_F0 ⟨_, _, _, _, fn3⟩ (wpAny_call ?_)
  obtain ⟨kb, b1, b2⟩ := hb (X.env.qual ++ "<lambda>") (cloFrom X.env.cells scope.names []) t u doc pm (.ref c') ctv
  have code : codeAny (model X.prog X.w) (X.A.deeper (envOfC qg sg s.heap.objs.size g cdg)) (.call (.ref f) ⟨[], []⟩) (CR (L2N.CX X.prog X.w) (envOfC qg sg s.heap.objs.size g cdg :: X.stack) X.prog X.w H3 s3 Q E) s3 := by
    refine PySem.W.kla_callFunE hr.depth fn3 rfl L.flat.1 L.flat.2 rfl ⟨c', oc, vs, tq, rfl, o1, o2, o3⟩ ?_
    refine BindsTo.of_defaults (fd := PySem.W.kdv_fn "<lambda>" (X.env.qual ++ "<lambda>") params (.expr body) scope (cloFrom X.env.cells scope.names []) (.ref t) doc pm (.ref c') ctv) rfl tu3 rfl b1 b2 _ _ _ _ ?_
    refine wpAny_newFunctionEnv (fun y hy => (L.own y hy).1) (fun y hy => by rw [List.mem_singleton.mp hy]; exact L.par) (fun h₁ hns hsb => ⟨I3.nolimit.fresh _ hsb, ?_⟩) L.kind
    have kp : ∀ b o, s3.heap.get? b = some o → h₁.get? b = some o := fun b o e => hsb.extBut b o (Nat.ne_of_lt (Heap.lt_size e)) (Heap.get?_push_of_some _ e)
    have J := (startD (E := E) (f := f) (c' := c') (tk := s3.toks + 1) M.inv L ha I3.env0 hr.hd I3.base hns kp).toTry (lamXe X (X.A.deeper (envOfC qg sg s.heap.objs.size g cdg)) (envOfC qg sg s.heap.objs.size g cdg :: X.stack) s3 H3 E scope f c')
    refine PySem.W.kla_codeExpr (wpAny_mono ((hbody _ _ s3 H3 (hr.deeper _)).run [] _ _ H3 Q J g3) (fun v s4 ⟨w4, H4, J4, r4, q4⟩ => ?_) fun e s4 q4 => q4)
    exact ⟨w4, H4, J4.os, J4.bare, J4.base, J4.hok, r4, q4⟩
  refine codeAny_mono code fun r s4 q4 => ?_
  match r, q4 with
  | .error e, q4 => exact pass pins2 σ2 H3 s3 e s4 I3 q4
  | .ok (.ret v), q4 => exact I3.after q4
  | .ok .next, q4 => exact q4.elim
  | .ok .brk, q4 => exact q4.elim
  | .ok .cont, q4 => exact q4.elim⟩
end
section
variable {X : Cx} {k : Nat} {CL P c : Addr} {tbl : List (Addr × Str)} {a : Str}
theorem le_lamD {params : Arguments} {body : Expr} {scope : Scope} {p lpos pos p0 : Pos} {d : Int} {j0 : Nat} {x : LTE} (M : KdOk X.prog X.w X.K X.mg X.base (k + 1) CL tbl) (hr : Room (k + 2) X.A)
    (TB : LamX.TabB X.base X.mg c P) (hcode : X.env.code = .ref c) (ht : tabK X.K = [(P, X.env.qual ++ "<lambda>")]) (L : LamDS X.env.scope scope a) (ha : a ∉ X.N) (hb : BindD params body scope a)
    (hbody : ∀ (A : Around) (outer : List Env) (s : Shared) (H : Hp) (E : XK) (f c' : Addr), Room k (A.deeper (LamX.lamEnv X scope s.heap.objs.size f c')) → LE (lamN X A outer s H E scope f c') body x)
    (hg : Gl X "_law_kind" := by rfl) (hd : params.defaults = [.Constant (.int d) j0 p0] := by rfl) (hk0 : params.kw_defaults = [] := by rfl) :
    LE X (.Call (.Name "_law_kind" p) [.Lambda params body scope lpos] [] pos) (xLam tbl x) := fun W tk => ⟨fun pins s σ H Q I ⟨σl, L0, Ql, El, rh, rs, sv, sx, hx⟩ => by
  obtain ⟨M, g, fd, pg, bg, sg, hm, F, hbk, Sg, kb, g1, g2, g3, g4⟩ := M
  have kp := F.kp
  obtain ⟨_, _, _, _, _, _, _, cdv, _, _, rfl, lk, hcd, _, _⟩ := F.ex
  have mem : (P, X.env.qual ++ "<lambda>") ∈ tabK X.K := by rw [ht]; exact List.mem_singleton.mpr rfl
  have only : ∀ p ∈ tabK X.K, p.1 = P → p.2 = X.env.qual ++ "<lambda>" := fun p hp _ => by rw [ht] at hp; rw [List.mem_singleton.mp hp]
  refine wpAny_Call_Name_kw (ld_glob I hg hm (PySem.W.callWith_K (h₀ := X.base) I.ok.mod.kin kp ?_ (by rfl) (by rfl)) (by decide))
  refine Calls.spliced_cons (made_eval I TB hcode mem only rh.tb hd hk0 (L.has I.ok) fun f c' t u doc pm ctv H1 s1 N => ?_)
  have I1 := N.inv
  refine Calls.spliced_nil ⟨I1.kIn, wpAny_call ?_⟩
  have y1 : Ext L0 H L0 H1 := fun b o e nt z => ⟨z, N.ext b o e nt⟩
  have rh1 : RH X.K L0 H1 := ⟨fun b lo e => by
    obtain ⟨o, ho, ro⟩ := rh.at_ b lo e
    exact ⟨o, N.ext b o ho fun ps z => (z ▸ ro).no_tbl, RO.ext y1 lo o ro⟩, N.tabs, rh.nt⟩
  have code : codeAny (model X.prog X.w) X.A (.call (.ref g) ⟨[.ref f], []⟩) (CR (L2N.CX X.prog X.w) X.stack X.prog X.w H1 s1 Q fun _ _ _ => False) s1 := by
    refine LamX.run_ofS (N := ["_law_work", "_law_e"]) (ps := ["_law_work"]) (us := [.ref f]) (vs := [.ref f]) lk hcd Sg hr I1.env0 (hbk s1 [.ref f] I1.kIn rfl) (.cons rfl .nil) rfl fun hr' => ?_
    refine kind_gives (k := k + 1) (c' := c') (q := X.env.qual ++ "<lambda>") (tl := fun E H' Q' => upE X.K (fun cls d _ H'' => E cls d H'') x σ H' Q') Sg kb g1 g2 g3 M hr' (fun W pn xe E p1 p2 tk hW => actD (i := 0) N L ha hb tk hW hr' (fun A outer s H hr2 => hbody A outer s H E f c' hr2 _ lamN_takes) rfl g4) N.cod ?_
    refine ⟨σl, L0, fun _ L' => Ql (.str "") L', _, rh1, rs.ext y1, fun l L' v H' r y _ q => sv (.str "") L' (.str "") H' r (y1.trans y) rfl q, fun e L' cls d σ' H' r y rx q => ?_, hx⟩
    cases hl : tbl.lookup e.c with
    | none => exact (show False by simpa only [hl] using q).elim
    | some nm =>
      obtain ⟨er, q⟩ := (show e.row = none ∧ Ql (.str nm) L' by simpa only [hl] using q)
      exact ⟨e.c, nm, rx.1, rx.2.1 er, hl, L', r, fun H2 r2 y2 => sv (.str nm) L' (.str nm) H2 r2 ((y1.trans y).trans y2) rfl q⟩
  refine codeAny_mono code fun r s2 q => ?_
  match r, q with
  | .error e, q =>
    obtain ⟨_, _, _, _, _, _, _, _, _, _, _, _, z⟩ := q
    exact z.elim
  | .ok (.ret v), q => exact I1.after q
  | .ok .next, q => exact q.elim
  | .ok .brk, q => exact q.elim
  | .ok .cont, q => exact q.elim⟩
end
end LK
set_option Elab.async false
set_option linter.all false
set_option maxRecDepth 100000
set_option maxHeartbeats 2000000
/-! The defs' readings, printed by gen.py; the table. -/
namespace LK
open PySem PySem.Spec PyProof.Rows L2
inductive Fn where
  | need_deed
  | World_init
  | World_need_kind
  | World_need_elder
  | World_add
  | World_put
  | World_drop
  | World_turn
  | World_above
  | World_up
  | World_found_by
  | World_find
  | World_kinds
  | l_mix
  | l_next
  | l_alike
  | l_world
  | l_up
  | l_find
  | l_word
  | l_change
  | l_kinds
  | l_step
  | l_odd
  | l_does
  | l_is_k01
  | law_k01
  | need_spots
  | Near_init
  | Near_forget
  | Near_touched_by
  | Near_add
  | Near_put
  | Near_drop
  | Near_turn
  | Near_need_spot
  | Near_ask
  | Near_entries
  | Near_counts
  | Near_kinds
  | l_near
  | l_fresh
  | l_forgets
  | l_ask
  | l_do
  | l_asks
  | l_does_k02
  | l_is
  | law_k02
  | l_done
  | l_are_true
  | law_k03
  | l_done_k04
  | l_kept
  | law_k04
  | told_by
  | done
  | played
  | law_k05
  | watched_in
  | Near_watched
  | l_watched
  | law_k06
  | l_does_k07
  | l_again
  | l_all
  | law_k07
  | held
  | l_all_k08
  | law_k08
  | written
  | number_of
  | is_so
  | part_of
  | l_text
  | l_steps
  | law_k09
  | l_part
  | l_due
  | l_changed
  | law_k10
  | law_k11
  | law_k12
  | l_kind
  | l_told
  | read
  | step_of
abbrev CW := Fn → LCall
def tblG (G : GA) : List (Addr × Str) := [(G.eTooMany, "TooMany"), (G.eNoKind, "NoKind"), (G.eNoDeed, "NoDeed"), (G.eNoBody, "NoBody"), (G.eRing, "Ring"), (G.eBadSpots, "BadSpots"), (G.eBadWide, "BadWide"), (G.eBadRule, "BadRule"), (G.eNoSpot, "NoSpot"), (G.eBadText, "BadText")]
def B_need_deed (G : GA) (cw : CW) : LTS := (sIf (xOrT (xTest (xBin (lEq true) (xCB lLen (xCons (xVar 0) xNil)) (xC (.int 1)))) (xTest (xBin (lIn true) (xVar 0) (xC (.str "abcdef"))))) (sRaise G.eNoDeed) sNext)
def B_World_init (G : GA) (cw : CW) : LTS := (sSeq (sFld G.cW "elders" (xVar 0) (xLst false xNil)) (sFld G.cW "own" (xVar 0) (xLst false xNil)))
def B_World_need_kind (G : GA) (cw : CW) : LTS := (sIf (xNotT (xTest (xChain lLe lLt (xC (.int 0)) (xVar 1) (xCB lLen (xCons (xFld G.cW "elders" (xVar 0)) xNil))))) (sRaise G.eNoKind) sNext)
def B_World_need_elder (G : GA) (cw : CW) : LTS := (sIf (xTest (xBin (lIs true) (xVar 1) (xC .non))) (sDrop (xMeth G.cW "need_kind" 1 (cw .World_need_kind) (xVar 0) (xCons (xVar 1) xNil))) sNext)
def B_World_add (G : GA) (cw : CW) : LTS := (sSeq (sIf (xTest (xBin lGe (xCB lLen (xCons (xFld G.cW "elders" (xVar 0)) xNil)) (xC (.int 12)))) (sRaise G.eTooMany) sNext) (sSeq (sDrop (xMeth G.cW "need_elder" 1 (cw .World_need_elder) (xVar 0) (xCons (xVar 1) xNil))) (sSeq (sDrop (xMt "list" lAppend (xFld G.cW "elders" (xVar 0)) (xCons (xVar 1) xNil))) (sSeq (sDrop (xMt "list" lAppend (xFld G.cW "own" (xVar 0)) (xCons xDK xNil))) (sRet (xBin lSub (xCB lLen (xCons (xFld G.cW "elders" (xVar 0)) xNil)) (xC (.int 1))))))))
def B_World_put (G : GA) (cw : CW) : LTS := (sSeq (sDrop (xMeth G.cW "need_kind" 1 (cw .World_need_kind) (xVar 0) (xCons (xVar 1) xNil))) (sSeq (sDrop (xCall 1 (cw .need_deed) (xCons (xVar 2) xNil))) (sSeq (sIf (xNotT (xTest (xChain lLe lLe (xC (.int 0)) (xVar 3) (xC (.int 99))))) (sRaise G.eNoBody) sNext) (sAsg (xVar 3) (gSubL (xBin lIx (xFld G.cW "own" (xVar 0)) (xVar 1)) (xVar 2))))))
def B_World_drop (G : GA) (cw : CW) : LTS := (sSeq (sDrop (xMeth G.cW "need_kind" 1 (cw .World_need_kind) (xVar 0) (xCons (xVar 1) xNil))) (sSeq (sDrop (xCall 1 (cw .need_deed) (xCons (xVar 2) xNil))) (sSeq (sIf (xTest (xBin (lIn true) (xVar 2) (xBin lIx (xFld G.cW "own" (xVar 0)) (xVar 1)))) (sRaise G.eNoDeed) sNext) (sDrop (xMt "dict" lDPop (xBin lIx (xFld G.cW "own" (xVar 0)) (xVar 1)) (xCons (xVar 2) xNil))))))
def B_World_turn (G : GA) (cw : CW) : LTS := (sSeq (sDrop (xMeth G.cW "need_kind" 1 (cw .World_need_kind) (xVar 0) (xCons (xVar 1) xNil))) (sSeq (sDrop (xMeth G.cW "need_elder" 1 (cw .World_need_elder) (xVar 0) (xCons (xVar 2) xNil))) (sSeq (sIf (xAndT (xTest (xBin (lIs true) (xVar 2) (xC .non))) (xTest (xBin (lIn false) (xVar 1) (xMeth G.cW "above" 1 (cw .World_above) (xVar 0) (xCons (xVar 2) xNil))))) (sRaise G.eRing) sNext) (sAsg (xVar 2) (gSubL (xFld G.cW "elders" (xVar 0)) (xVar 1))))))
def B_World_above (G : GA) (cw : CW) : LTS := (sSeq (sAsg (xLst false xNil) (gNm 2)) (sSeq (sWhile (xTest (xBin (lIs true) (xVar 1) (xC .non))) (sSeq (sDrop (xMt "list" lAppend (xVar 2) (xCons (xVar 1) xNil))) (sAsg (xBin lIx (xFld G.cW "elders" (xVar 0)) (xVar 1)) (gNm 1)))) (sRet (xVar 2))))
def B_World_up (G : GA) (cw : CW) : LTS := (sSeq (sDrop (xMeth G.cW "need_kind" 1 (cw .World_need_kind) (xVar 0) (xCons (xVar 1) xNil))) (sRet (xMeth G.cW "above" 1 (cw .World_above) (xVar 0) (xCons (xVar 1) xNil))))
def B_World_found_by (G : GA) (cw : CW) : LTS := (sSeq (sFor (iLst (xMeth G.cW "above" 1 (cw .World_above) (xVar 0) (xCons (xVar 1) xNil))) (gNm 3) (sIf (xTest (xBin (lIn false) (xVar 2) (xBin lIx (xFld G.cW "own" (xVar 0)) (xVar 3)))) (sRet (xTup (xCons (xVar 3) (xCons (xBin lIx (xBin lIx (xFld G.cW "own" (xVar 0)) (xVar 3)) (xVar 2)) xNil)))) sNext)) (sRet (xC .non)))
def B_World_find (G : GA) (cw : CW) : LTS := (sSeq (sDrop (xMeth G.cW "need_kind" 1 (cw .World_need_kind) (xVar 0) (xCons (xVar 1) xNil))) (sSeq (sDrop (xCall 1 (cw .need_deed) (xCons (xVar 2) xNil))) (sRet (xMeth G.cW "found_by" 2 (cw .World_found_by) (xVar 0) (xCons (xVar 1) (xCons (xVar 2) xNil))))))
def B_World_kinds (G : GA) (cw : CW) : LTS := (sSeq (sAsg (xLst false xNil) (gNm 1)) (sSeq (sFor (iRng (xCB lLen (xCons (xFld G.cW "elders" (xVar 0)) xNil))) (gNm 2) (sSeq (sAsg (xBin lIx (xFld G.cW "own" (xVar 0)) (xVar 2)) (gNm 3)) (sDrop (xMt "list" lAppend (xVar 1) (xCons (xTup (xCons (xBin lIx (xFld G.cW "elders" (xVar 0)) (xVar 2)) (xCons (xLc false (iLst (xCB (lSortD true) (xCons (xVar 3) xNil))) (gNm 4) xYes (xTup (xCons (xVar 4) (xCons (xBin lIx (xVar 3) (xVar 4)) xNil))) [4]) xNil))) xNil))))) (sRet (xVar 1))))
def B_l_mix (G : GA) (cw : CW) : LTS := (sSeq (sAsg (xVar 1) (gNm 2)) (sSeq (sFor (iLst (xVar 0)) (gNm 3) (sAsg (xBin lMod (xBin lAdd (xBin lAdd (xBin lMul (xVar 2) (xC (.int 48271))) (xBin lMod (xVar 3) (xC (.int 2147483629)))) (xC (.int 1))) (xC (.int 2147483647))) (gNm 2))) (sRet (xLst false (xCons (xVar 2) (xCons (xCB (lList false) (xCons (xVar 0) xNil)) (xCons (xC (.int 0)) xNil)))))))
def B_l_next (G : GA) (cw : CW) : LTS := (sSeq (sAsg (xBin lMod (xBin lIx (xVar 0) (xC (.int 2))) (xCB lMax (xCons (xC (.int 1)) (xCons (xCB lLen (xCons (xBin lIx (xVar 0) (xC (.int 1))) xNil)) xNil)))) (gNm 2)) (sSeq (sAsg (xIf (xTest (xBin (lEq true) (xBin lIx (xVar 0) (xC (.int 1))) (xLst true xNil))) (xBin lIx (xBin lIx (xVar 0) (xC (.int 1))) (xVar 2)) (xC (.int 0))) (gNm 3)) (sSeq (sIf (xTest (xBin lGe (xVar 3) (xBin lPow (xC (.int 10)) (xC (.int 18))))) (sSeq (sAsg (xBin lDiv (xVar 3) (xVar 1)) (gSubL (xBin lIx (xVar 0) (xC (.int 1))) (xVar 2))) (sRet (xBin lMod (xVar 3) (xVar 1)))) sNext) (sSeq (sAsg (xBin lMod (xBin lAdd (xBin lAdd (xBin lMul (xBin lIx (xVar 0) (xC (.int 0))) (xC (.int 48271))) (xBin lMul (xVar 3) (xC (.int 69621)))) (xC (.int 11))) (xC (.int 2147483647))) (gSubL (xVar 0) (xC (.int 0)))) (sSeq (sAsg (xBin lAdd (xBin lIx (xVar 0) (xC (.int 2))) (xC (.int 1))) (gSubL (xVar 0) (xC (.int 2)))) (sRet (xBin lMod (xBin lDiv (xBin lIx (xVar 0) (xC (.int 0))) (xC (.int 7))) (xVar 1))))))))
def B_l_alike (G : GA) (cw : CW) : LTS := (sSeq (sIf (xTest (xCB lIsi (xCons (xVar 1) (xCons (xTup (xCons (xC (.ty "tuple")) (xCons (xC (.ty "list")) xNil))) xNil)))) (sSeq (sIf (xOrT (xNotT (xTest (xCB lIsi (xCons (xVar 0) (xCons (xTup (xCons (xC (.ty "tuple")) (xCons (xC (.ty "list")) xNil))) xNil))))) (xTest (xBin (lEq true) (xCB lIsi (xCons (xVar 0) (xCons (xC (.ty "list")) xNil))) (xCB lIsi (xCons (xVar 1) (xCons (xC (.ty "list")) xNil)))))) (sRet (xC (.bl false))) sNext) (sSeq (sIf (xTest (xBin (lEq true) (xCB lLen (xCons (xVar 0) xNil)) (xCB lLen (xCons (xVar 1) xNil)))) (sRet (xC (.bl false))) sNext) (sRet (xBin (lEq false) (xLc true (iRng (xCB lLen (xCons (xVar 1) xNil))) (gNm 2) (xNotT (xTest (xCall 2 (cw .l_alike) (xCons (xBin lIx (xVar 0) (xVar 2)) (xCons (xBin lIx (xVar 1) (xVar 2)) xNil))))) (xVar 2) [2]) (xLst true xNil))))) sNext) (sSeq (sIf (xTest (xBin (lIs false) (xVar 1) (xC .non))) (sRet (xBin (lIs false) (xVar 0) (xC .non))) sNext) (sSeq (sIf (xTest (xCB lIsi (xCons (xVar 1) (xCons (xC (.ty "str")) xNil)))) (sRet (xAnd (xCB lIsi (xCons (xVar 0) (xCons (xC (.ty "str")) xNil))) (xBin (lEq false) (xVar 0) (xVar 1)))) sNext) (sSeq (sIf (xOrT (xTest (xCB lIsi (xCons (xVar 1) (xCons (xC (.ty "bool")) xNil)))) (xTest (xCB lIsi (xCons (xVar 0) (xCons (xC (.ty "bool")) xNil))))) (sRet (xAnd (xCB lIsi (xCons (xVar 1) (xCons (xC (.ty "bool")) xNil))) (xAnd (xCB lIsi (xCons (xVar 0) (xCons (xC (.ty "bool")) xNil))) (xBin (lEq false) (xVar 0) (xVar 1))))) sNext) (sRet (xAnd (xCB lIsi (xCons (xVar 0) (xCons (xC (.ty "int")) xNil))) (xBin (lEq false) (xVar 0) (xVar 1))))))))
def B_l_world (G : GA) (cw : CW) : LTS := (sRet (xDisp [((xC (.str "elders")), (xLst false xNil)), ((xC (.str "own")), (xLst false xNil))]))
def B_l_up (G : GA) (cw : CW) : LTS := (sRet (xIf (xTest (xBin (lIs false) (xVar 1) (xC .non))) (xLst true xNil) (xBin (lCat true) (xLst true (xCons (xVar 1) xNil)) (xCall 2 (cw .l_up) (xCons (xVar 0) (xCons (xBin lIx (xBin lIx (xVar 0) (xC (.str "elders"))) (xVar 1)) xNil))))))
def B_l_find (G : GA) (cw : CW) : LTS := (sSeq (sAsg (xLc true (iLst (xCall 2 (cw .l_up) (xCons (xVar 0) (xCons (xVar 1) xNil)))) (gNm 4) (xTest (xBin (lIn false) (xVar 2) (xBin lIx (xBin lIx (xVar 0) (xC (.str "own"))) (xVar 4)))) (xTup (xCons (xVar 4) (xCons (xBin lIx (xBin lIx (xBin lIx (xVar 0) (xC (.str "own"))) (xVar 4)) (xVar 2)) xNil))) [4]) (gNm 3)) (sRet (xIf (xTest (xBin (lEq true) (xVar 3) (xLst true xNil))) (xBin lIx (xVar 3) (xC (.int 0))) (xC .non))))
def B_l_word (G : GA) (cw : CW) : LTS := (sSeq (sAsg (xCB lLen (xCons (xBin lIx (xVar 0) (xC (.str "elders"))) xNil)) (gNm 2)) (sSeq (sIf (xAndT (xTest (xBin (lEq false) (xBin lIx (xVar 1) (xC (.int 0))) (xC (.str "add")))) (xTest (xBin (lEq false) (xVar 2) (xC (.int 12))))) (sRet (xC (.str "TooMany"))) sNext) (sSeq (sAsg (xBin (lCat true) (xCB (lList true) (xCons (xSl true (xVar 1) (xPart (xC (.int 1))) (xPart (xC (.int 2)))) xNil)) (xCB (lList true) (xCons (xIf (xTest (xBin (lEq false) (xBin lIx (xVar 1) (xC (.int 0))) (xC (.str "turn")))) (xSl true (xVar 1) (xPart (xC (.int 2))) xNoPart) (xTup xNil)) xNil))) (gNm 3)) (sSeq (sFor (iRng (xCB lLen (xCons (xVar 3) xNil))) (gNm 4) (sSeq (sAsg (xAnd (xBin (lIs false) (xBin lIx (xVar 3) (xVar 4)) (xC .non)) (xOr (xBin (lEq false) (xBin lIx (xVar 1) (xC (.int 0))) (xC (.str "add"))) (xBin (lEq false) (xVar 4) (xC (.int 1))))) (gNm 5)) (sIf (xAndT (xNotT (xTest (xVar 5))) (xNotT (xTest (xChain lLe lLt (xC (.int 0)) (xBin lIx (xVar 3) (xVar 4)) (xVar 2))))) (sRet (xC (.str "NoKind"))) sNext))) (sSeq (sIf (xTest (xBin (lIn false) (xBin lIx (xVar 1) (xC (.int 0))) (xTup (xCons (xC (.str "put")) (xCons (xC (.str "drop")) xNil))))) (sSeq (sIf (xTest (xBin (lIn true) (xBin lIx (xVar 1) (xC (.int 2))) (xTup (xCons (xC (.str "a")) (xCons (xC (.str "b")) (xCons (xC (.str "c")) (xCons (xC (.str "d")) (xCons (xC (.str "e")) (xCons (xC (.str "f")) xNil))))))))) (sRet (xC (.str "NoDeed"))) sNext) (sSeq (sIf (xAndT (xTest (xBin (lEq false) (xBin lIx (xVar 1) (xC (.int 0))) (xC (.str "drop")))) (xTest (xBin (lIn true) (xBin lIx (xVar 1) (xC (.int 2))) (xBin lIx (xBin lIx (xVar 0) (xC (.str "own"))) (xBin lIx (xVar 1) (xC (.int 1))))))) (sRet (xC (.str "NoDeed"))) sNext) (sRet (xIf (xAndT (xTest (xBin (lEq false) (xBin lIx (xVar 1) (xC (.int 0))) (xC (.str "put")))) (xNotT (xTest (xChain lLe lLe (xC (.int 0)) (xBin lIx (xVar 1) (xC (.int 3))) (xC (.int 99)))))) (xC (.str "NoBody")) (xC (.str "")))))) sNext) (sRet (xIf (xAndT (xTest (xBin (lEq false) (xBin lIx (xVar 1) (xC (.int 0))) (xC (.str "turn")))) (xTest (xBin (lIn false) (xBin lIx (xVar 1) (xC (.int 1))) (xCall 2 (cw .l_up) (xCons (xVar 0) (xCons (xBin lIx (xVar 1) (xC (.int 2))) xNil)))))) (xC (.str "Ring")) (xC (.str "")))))))))
def B_l_change (G : GA) (cw : CW) : LTS := (sSeq (sIf (xTest (xBin (lEq false) (xBin lIx (xVar 1) (xC (.int 0))) (xC (.str "add")))) (sSeq (sDrop (xMt "list" lAppend (xBin lIx (xVar 0) (xC (.str "elders"))) (xCons (xBin lIx (xVar 1) (xC (.int 1))) xNil))) (sSeq (sDrop (xMt "list" lAppend (xBin lIx (xVar 0) (xC (.str "own"))) (xCons xDK xNil))) (sRet (xBin lSub (xCB lLen (xCons (xBin lIx (xVar 0) (xC (.str "elders"))) xNil)) (xC (.int 1)))))) sNext) (sSeq (sIf (xTest (xBin (lEq false) (xBin lIx (xVar 1) (xC (.int 0))) (xC (.str "put")))) (sAsg (xBin lIx (xVar 1) (xC (.int 3))) (gSubL (xBin lIx (xBin lIx (xVar 0) (xC (.str "own"))) (xBin lIx (xVar 1) (xC (.int 1)))) (xBin lIx (xVar 1) (xC (.int 2))))) (sIf (xTest (xBin (lEq false) (xBin lIx (xVar 1) (xC (.int 0))) (xC (.str "drop")))) (sDrop (xMt "dict" lDPop (xBin lIx (xBin lIx (xVar 0) (xC (.str "own"))) (xBin lIx (xVar 1) (xC (.int 1)))) (xCons (xBin lIx (xVar 1) (xC (.int 2))) xNil))) (sAsg (xBin lIx (xVar 1) (xC (.int 2))) (gSubL (xBin lIx (xVar 0) (xC (.str "elders"))) (xBin lIx (xVar 1) (xC (.int 1))))))) (sRet (xC .non))))
def B_l_kinds (G : GA) (cw : CW) : LTS := (sSeq (sAsg (xLst false xNil) (gNm 1)) (sSeq (sFor (iRng (xCB lLen (xCons (xBin lIx (xVar 0) (xC (.str "elders"))) xNil))) (gNm 2) (sSeq (sAsg (xBin lIx (xBin lIx (xVar 0) (xC (.str "own"))) (xVar 2)) (gNm 3)) (sDrop (xMt "list" lAppend (xVar 1) (xCons (xTup (xCons (xBin lIx (xBin lIx (xVar 0) (xC (.str "elders"))) (xVar 2)) (xCons (xLc true (iStr (xC (.str "abcdef"))) (gNm 4) (xTest (xBin (lIn false) (xVar 4) (xVar 3))) (xTup (xCons (xVar 4) (xCons (xBin lIx (xVar 3) (xVar 4)) xNil))) [4]) xNil))) xNil))))) (sRet (xVar 1))))
def B_l_step (G : GA) (cw : CW) : LTS := (sSeq (sAsg (xCB lLen (xCons (xBin lIx (xVar 1) (xC (.str "elders"))) xNil)) (gNm 2)) (sSeq (sAsg (xCall 2 (cw .l_next) (xCons (xVar 0) (xCons (xC (.int 10)) xNil))) (gNm 3)) (sSeq (sAsg (xCall 2 (cw .l_next) (xCons (xVar 0) (xCons (xCB lMax (xCons (xC (.int 1)) (xCons (xVar 2) xNil))) xNil))) (gNm 4)) (sSeq (sIf (xOrT (xTest (xBin lLt (xVar 2) (xC (.int 2)))) (xOrT (xTest (xBin (lEq false) (xVar 3) (xC (.int 0)))) (xAndT (xTest (xBin lLt (xVar 3) (xC (.int 4)))) (xTest (xBin lLt (xVar 2) (xC (.int 4))))))) (sRet (xTup (xCons (xC (.str "add")) (xCons (xBin lIx (xLst true (xCons (xC .non) (xCons (xVar 4) xNil))) (xCB lInt (xCons (xAnd (xBin lGt (xVar 2) (xC (.int 0))) (xBin lGt (xCall 2 (cw .l_next) (xCons (xVar 0) (xCons (xC (.int 4)) xNil))) (xC (.int 0)))) xNil))) xNil)))) sNext) (sSeq (sAsg (xBin lIx (xC (.str "abcdef")) (xCall 2 (cw .l_next) (xCons (xVar 0) (xCons (xBin lIx (xLst true (xCons (xC (.int 2)) (xCons (xC (.int 6)) xNil))) (xCall 2 (cw .l_next) (xCons (xVar 0) (xCons (xC (.int 2)) xNil)))) xNil)))) (gNm 5)) (sSeq (sIf (xTest (xBin lLt (xVar 3) (xC (.int 6)))) (sRet (xTup (xCons (xC (.str "put")) (xCons (xVar 4) (xCons (xVar 5) (xCons (xBin lIx (xLst true (xCons (xCall 2 (cw .l_next) (xCons (xVar 0) (xCons (xC (.int 100)) xNil))) (xCons (xC (.int 99)) (xCons (xCall 2 (cw .l_next) (xCons (xVar 0) (xCons (xC (.int 3)) xNil))) xNil)))) (xCall 2 (cw .l_next) (xCons (xVar 0) (xCons (xC (.int 3)) xNil)))) xNil)))))) sNext) (sSeq (sIf (xTest (xBin lLt (xVar 3) (xC (.int 8)))) (sSeq (sAsg (xCB (lSortD true) (xCons (xBin lIx (xBin lIx (xVar 1) (xC (.str "own"))) (xVar 4)) xNil)) (gNm 6)) (sRet (xTup (xCons (xC (.str "drop")) (xCons (xVar 4) (xCons (xIf (xTest (xBin (lEq true) (xVar 6) (xLst true xNil))) (xBin lIx (xVar 6) (xCall 2 (cw .l_next) (xCons (xVar 0) (xCons (xCB lLen (xCons (xVar 6) xNil)) xNil)))) (xVar 5)) xNil)))))) sNext) (sRet (xTup (xCons (xC (.str "turn")) (xCons (xVar 4) (xCons (xBin lIx (xLst true (xCons (xC .non) (xCons (xCall 2 (cw .l_next) (xCons (xVar 0) (xCons (xVar 2) xNil))) xNil))) (xCB lInt (xCons (xBin lGt (xCall 2 (cw .l_next) (xCons (xVar 0) (xCons (xC (.int 4)) xNil))) (xC (.int 0))) xNil))) xNil))))))))))))
def B_l_odd (G : GA) (cw : CW) : LTS := (sSeq (sAsg (xCB lLen (xCons (xBin lIx (xVar 1) (xC (.str "elders"))) xNil)) (gNm 2)) (sSeq (sAsg (xCall 2 (cw .l_next) (xCons (xVar 0) (xCons (xBin lPow (xC (.int 10)) (xC (.int 6))) xNil))) (gNm 3)) (sSeq (sAsg (xCall 2 (cw .l_next) (xCons (xVar 0) (xCons (xCB lMax (xCons (xC (.int 1)) (xCons (xVar 2) xNil))) xNil))) (gNm 4)) (sSeq (sAsg (xBin lIx (xLst true (xCons (xVar 2) (xCons (xBin lAdd (xVar 2) (xVar 3)) (xCons (xNeg (xC (.int 1))) (xCons (xBin lSub (xNeg (xC (.int 1))) (xVar 3)) xNil))))) (xCall 2 (cw .l_next) (xCons (xVar 0) (xCons (xC (.int 4)) xNil)))) (gNm 5)) (sSeq (sAsg (xLst true (xCons (xTup (xCons (xC (.str "add")) (xCons (xVar 5) xNil))) (xCons (xTup (xCons (xC (.str "put")) (xCons (xVar 5) (xCons (xC (.str "g")) (xCons (xC (.int 100)) xNil))))) (xCons (xTup (xCons (xC (.str "put")) (xCons (xVar 4) (xCons (xC (.str "g")) (xCons (xC (.int 100)) xNil))))) (xCons (xTup (xCons (xC (.str "put")) (xCons (xVar 4) (xCons (xC (.str "")) (xCons (xC (.int 0)) xNil))))) (xCons (xTup (xCons (xC (.str "put")) (xCons (xVar 4) (xCons (xC (.str "ab")) (xCons (xC (.int 0)) xNil))))) xNil)))))) (gNm 6)) (sSeq (sAsg (xBin (lCat true) (xVar 6) (xLst true (xCons (xTup (xCons (xC (.str "put")) (xCons (xVar 4) (xCons (xC (.str "a")) (xCons (xBin lAdd (xC (.int 100)) (xVar 3)) xNil))))) (xCons (xTup (xCons (xC (.str "put")) (xCons (xVar 4) (xCons (xC (.str "a")) (xCons (xBin lSub (xNeg (xC (.int 1))) (xVar 3)) xNil))))) (xCons (xTup (xCons (xC (.str "drop")) (xCons (xVar 5) (xCons (xC (.str "z")) xNil)))) (xCons (xTup (xCons (xC (.str "drop")) (xCons (xVar 4) (xCons (xC (.str "A")) xNil)))) xNil)))))) (gNm 6)) (sSeq (sAsg (xBin (lCat true) (xVar 6) (xLst true (xCons (xTup (xCons (xC (.str "drop")) (xCons (xVar 4) (xCons (xC (.str "f")) xNil)))) (xCons (xTup (xCons (xC (.str "turn")) (xCons (xVar 5) (xCons (xC .non) xNil)))) (xCons (xTup (xCons (xC (.str "turn")) (xCons (xVar 4) (xCons (xVar 5) xNil)))) (xCons (xTup (xCons (xC (.str "turn")) (xCons (xVar 4) (xCons (xVar 4) xNil)))) xNil)))))) (gNm 6)) (sRet (xBin lIx (xBin (lCat true) (xVar 6) (xLst true (xCons (xTup (xCons (xC (.str "turn")) (xCons (xVar 5) (xCons (xVar 5) xNil)))) xNil))) (xCall 2 (cw .l_next) (xCons (xVar 0) (xCons (xC (.int 14)) xNil))))))))))))
def B_l_does (G : GA) (cw : CW) : LTS := (sTryN (tblG G) (sSeq (sIf (xTest (xBin (lEq false) (xBin lIx (xVar 1) (xC (.int 0))) (xC (.str "add")))) (sRet (xMeth G.cW "add" 1 (cw .World_add) (xVar 0) (xCons (xBin lIx (xVar 1) (xC (.int 1))) xNil))) sNext) (sSeq (sIf (xTest (xBin (lEq false) (xBin lIx (xVar 1) (xC (.int 0))) (xC (.str "put")))) (sRet (xMeth G.cW "put" 3 (cw .World_put) (xVar 0) (xCons (xBin lIx (xVar 1) (xC (.int 1))) (xCons (xBin lIx (xVar 1) (xC (.int 2))) (xCons (xBin lIx (xVar 1) (xC (.int 3))) xNil))))) sNext) (sSeq (sIf (xTest (xBin (lEq false) (xBin lIx (xVar 1) (xC (.int 0))) (xC (.str "drop")))) (sRet (xMeth G.cW "drop" 2 (cw .World_drop) (xVar 0) (xCons (xBin lIx (xVar 1) (xC (.int 1))) (xCons (xBin lIx (xVar 1) (xC (.int 2))) xNil)))) sNext) (sRet (xIf (xTest (xBin (lEq false) (xBin lIx (xVar 1) (xC (.int 0))) (xC (.str "turn")))) (xMeth G.cW "turn" 2 (cw .World_turn) (xVar 0) (xCons (xBin lIx (xVar 1) (xC (.int 1))) (xCons (xBin lIx (xVar 1) (xC (.int 2))) xNil))) xNever))))))
def B_l_is_k01 (G : GA) (cw : CW) : LTS := (sSeq (sIf (xNotT (xTest (xCall 2 (cw .l_alike) (xCons (xMeth G.cW "kinds" 0 (cw .World_kinds) (xVar 1) xNil) (xCons (xCall 1 (cw .l_kinds) (xCons (xVar 2) xNil)) xNil))))) (sRet (xC (.bl false))) sNext) (sSeq (sAsg (xCB lLen (xCons (xBin lIx (xVar 2) (xC (.str "elders"))) xNil)) (gNm 3)) (sSeq (sFor (iRng (xVar 3)) (gNm 4) (sSeq (sIf (xNotT (xTest (xCall 2 (cw .l_alike) (xCons (xMeth G.cW "up" 1 (cw .World_up) (xVar 1) (xCons (xVar 4) xNil)) (xCons (xCall 2 (cw .l_up) (xCons (xVar 2) (xCons (xVar 4) xNil))) xNil))))) (sRet (xC (.bl false))) sNext) (sFor (iStr (xC (.str "abcdef"))) (gNm 5) (sIf (xNotT (xTest (xCall 2 (cw .l_alike) (xCons (xMeth G.cW "find" 2 (cw .World_find) (xVar 1) (xCons (xVar 4) (xCons (xVar 5) xNil))) (xCons (xCall 3 (cw .l_find) (xCons (xVar 2) (xCons (xVar 4) (xCons (xVar 5) xNil)))) xNil))))) (sRet (xC (.bl false))) sNext)))) (sSeq (sAsg (xBin lIx (xLst true (xCons (xVar 3) (xCons (xNeg (xC (.int 1))) (xCons (xBin lAdd (xVar 3) (xCall 2 (cw .l_next) (xCons (xVar 0) (xCons (xBin lPow (xC (.int 10)) (xC (.int 6))) xNil)))) xNil)))) (xCall 2 (cw .l_next) (xCons (xVar 0) (xCons (xC (.int 3)) xNil)))) (gNm 6)) (sSeq (sIf (xTest (xBin (lEq true) (xLst true (xCons (xLam (tblG G) (xMeth G.cW "up" 1 (cw .World_up) (xVar 1) (xCons (xVar 6) xNil))) (xCons (xLam (tblG G) (xMeth G.cW "find" 2 (cw .World_find) (xVar 1) (xCons (xVar 6) (xCons (xC (.str "g")) xNil)))) xNil))) (xBin (lRep true) (xLst true (xCons (xC (.str "NoKind")) xNil)) (xC (.int 2))))) (sRet (xC (.bl false))) sNext) (sSeq (sAsg (xBin lIx (xLst true (xCons (xC (.str "g")) (xCons (xC (.str "")) (xCons (xC (.str "A")) (xCons (xC (.str "ab")) (xCons (xC (.str "-")) xNil)))))) (xCall 2 (cw .l_next) (xCons (xVar 0) (xCons (xC (.int 5)) xNil)))) (gNm 7)) (sRet (xOr (xBin (lEq false) (xVar 3) (xC (.int 0))) (xBin (lEq false) (xLam (tblG G) (xMeth G.cW "find" 2 (cw .World_find) (xVar 1) (xCons (xC (.int 0)) (xCons (xVar 7) xNil)))) (xC (.str "NoDeed")))))))))))
def B_law_k01 (G : GA) (cw : CW) : LTS := (sSeq (sAsg (xCall 2 (cw .l_mix) (xCons (xVar 0) (xCons (xC (.int 3)) xNil))) (gNm 1)) (sSeq (sAsg (xMake G.cW 0 (cw .World_init) xNil) (gNm 2)) (sSeq (sAsg (xCall 0 (cw .l_world) xNil) (gNm 3)) (sSeq (sFor (iRng (xCall 2 (cw .l_next) (xCons (xVar 1) (xCons (xC (.int 61)) xNil)))) (gNm 4) (sSeq (sAsg (xBin lIx (xLst true (xCons (xCall 2 (cw .l_step) (xCons (xVar 1) (xCons (xVar 3) xNil))) (xCons (xCall 2 (cw .l_step) (xCons (xVar 1) (xCons (xVar 3) xNil))) (xCons (xCall 2 (cw .l_odd) (xCons (xVar 1) (xCons (xVar 3) xNil))) xNil)))) (xCall 2 (cw .l_next) (xCons (xVar 1) (xCons (xC (.int 3)) xNil)))) (gNm 5)) (sSeq (sAsg (xCall 2 (cw .l_word) (xCons (xVar 3) (xCons (xVar 5) xNil))) (gNm 6)) (sSeq (sIf (xTest (xBin (lEq false) (xVar 6) (xC (.str "")))) (sAsg (xCall 2 (cw .l_change) (xCons (xVar 3) (xCons (xVar 5) xNil))) (gNm 6)) sNext) (sSeq (sIf (xOrT (xNotT (xTest (xCall 2 (cw .l_alike) (xCons (xCall 2 (cw .l_does) (xCons (xVar 2) (xCons (xVar 5) xNil))) (xCons (xVar 6) xNil))))) (xNotT (xTest (xCall 3 (cw .l_is_k01) (xCons (xVar 1) (xCons (xVar 2) (xCons (xVar 3) xNil))))))) (sRet (xC (.bl false))) sNext) (sSeq (sFor (iLst (xMeth G.cW "kinds" 0 (cw .World_kinds) (xVar 2) xNil)) (gTp [7, 8]) (sDrop (xMt "list" lAppend (xVar 8) (xCons (xTup (xCons (xC (.str "a")) (xCons (xC (.int 7)) xNil))) xNil)))) (sDrop (xMt "list" lClear (xMeth G.cW "kinds" 0 (cw .World_kinds) (xVar 2) xNil) xNil)))))))) (sRet (xCall 3 (cw .l_is_k01) (xCons (xVar 1) (xCons (xVar 2) (xCons (xVar 3) xNil)))))))))
def B_need_spots (G : GA) (cw : CW) : LTS := (sSeq (sIf (xOrT (xNotT (xTest (xChain lLe lLe (xC (.int 1)) (xCB lLen (xCons (xVar 0) xNil)) (xC (.int 8))))) (xTest (xBin (lEq true) (xLc true (iStr (xVar 0)) (gNm 2) (xTest (xBin (lIn true) (xVar 2) (xC (.str "abcdef")))) (xVar 2) [2]) (xLst true xNil)))) (sRaise G.eBadSpots) sNext) (sIf (xNotT (xTest (xChain lLe lLe (xC (.int 1)) (xVar 1) (xC (.int 6))))) (sRaise G.eBadWide) sNext))
def B_Near_init (G : GA) (cw : CW) : LTS := (sSeq (sDrop (xCall 2 (cw .need_spots) (xCons (xVar 1) (xCons (xVar 2) xNil)))) (sSeq (sIf (xTest (xBin (lIn true) (xVar 3) (xC (.wt ((["all", "deed", "below", "just"] : List Str).map LV.str))))) (sRaise G.eBadRule) sNext) (sSeq (sFld G.cN "spots" (xVar 0) (xVar 1)) (sSeq (sFld G.cN "wide" (xVar 0) (xVar 2)) (sSeq (sFld G.cN "rule" (xVar 0) (xVar 3)) (sSeq (sFld G.cN "world" (xVar 0) (xMake G.cW 0 (cw .World_init) xNil)) (sSeq (sFld G.cN "kept" (xVar 0) (xLc false (iStr (xVar 1)) (gNm 4) xYes (xLst true xNil) [4])) (sSeq (sFld G.cN "hits" (xVar 0) (xC (.int 0))) (sSeq (sFld G.cN "misses" (xVar 0) (xC (.int 0))) (sSeq (sFld G.cN "forgotten" (xVar 0) (xC (.int 0))) (sSeq (sFld G.cN "thrown" (xVar 0) (xC (.int 0))) (sFld G.cN "needless" (xVar 0) (xC (.int 0))))))))))))))
def B_Near_forget (G : GA) (cw : CW) : LTS := (sSeq (sAsg (xLst false xNil) (gNm 2)) (sSeq (sFor (iRng (xCB lLen (xCons (xFld G.cN "spots" (xVar 0)) xNil))) (gNm 3) (sSeq (sAsg (xLst false xNil) (gNm 4)) (sSeq (sFor (iLst (xBin lIx (xFld G.cN "kept" (xVar 0)) (xVar 3))) (gTp [5, 6]) (sSeq (sAsg (xBin (lEq false) (xMeth G.cW "found_by" 2 (cw .World_found_by) (xFld G.cN "world" (xVar 0)) (xCons (xVar 5) (xCons (xBin lIx (xFld G.cN "spots" (xVar 0)) (xVar 3)) xNil))) (xVar 6)) (gNm 7)) (sIf (xIfT (xTest (xBin (lEq true) (xFld G.cN "rule" (xVar 0)) (xC (.str "just")))) (xTest (xBin (lIn false) (xTup (xCons (xVar 3) (xCons (xVar 5) xNil))) (xVar 1))) (xNotT (xTest (xVar 7)))) (sSeq (sDrop (xMt "list" lAppend (xVar 2) (xCons (xTup (xCons (xVar 3) (xCons (xVar 5) xNil))) xNil))) (sFld G.cN "needless" (xVar 0) (xBin lAdd (xFld G.cN "needless" (xVar 0)) (xCB lInt (xCons (xVar 7) xNil))))) (sDrop (xMt "list" lAppend (xVar 4) (xCons (xTup (xCons (xVar 5) (xCons (xVar 6) xNil))) xNil)))))) (sAsg (xFrz (xVar 4)) (gSubL (xFld G.cN "kept" (xVar 0)) (xVar 3)))))) (sSeq (sFld G.cN "forgotten" (xVar 0) (xBin lAdd (xFld G.cN "forgotten" (xVar 0)) (xCB lLen (xCons (xVar 2) xNil)))) (sRet (xCB (lSortP false) (xCons (xVar 2) xNil))))))
def B_Near_touched_by (G : GA) (cw : CW) : LTS := (sSeq (sAsg xDT (gNm 3)) (sSeq (sFor (iRng (xCB lLen (xCons (xFld G.cN "spots" (xVar 0)) xNil))) (gNm 4) (sFor (iLst (xBin lIx (xFld G.cN "kept" (xVar 0)) (xVar 4))) (gTp [5, 6]) (sSeq (sAsg (xOr (xBin (lEq true) (xFld G.cN "rule" (xVar 0)) (xC (.str "below"))) (xBin (lIn false) (xVar 1) (xMeth G.cW "above" 1 (cw .World_above) (xFld G.cN "world" (xVar 0)) (xCons (xVar 5) xNil)))) (gNm 7)) (sIf (xOrT (xTest (xBin (lEq false) (xFld G.cN "rule" (xVar 0)) (xC (.str "all")))) (xAndT (xTest (xVar 7)) (xTest (xBin (lIn false) (xVar 2) (xTup (xCons (xC .non) (xCons (xBin lIx (xFld G.cN "spots" (xVar 0)) (xVar 4)) xNil))))))) (sAsg (xC (.bl true)) (gSubL (xVar 3) (xTup (xCons (xVar 4) (xCons (xVar 5) xNil))))) sNext)))) (sRet (xVar 3))))
def B_Near_add (G : GA) (cw : CW) : LTS := (sRet (xTup (xCons (xMeth G.cW "add" 1 (cw .World_add) (xFld G.cN "world" (xVar 0)) (xCons (xVar 1) xNil)) (xCons (xLst false xNil) xNil))))
def B_Near_put (G : GA) (cw : CW) : LTS := (sSeq (sAsg (xMeth G.cN "touched_by" 2 (cw .Near_touched_by) (xVar 0) (xCons (xVar 1) (xCons (xVar 2) xNil))) (gNm 4)) (sSeq (sDrop (xMeth G.cW "put" 3 (cw .World_put) (xFld G.cN "world" (xVar 0)) (xCons (xVar 1) (xCons (xVar 2) (xCons (xVar 3) xNil))))) (sRet (xTup (xCons (xC .non) (xCons (xMeth G.cN "forget" 1 (cw .Near_forget) (xVar 0) (xCons (xVar 4) xNil)) xNil))))))
def B_Near_drop (G : GA) (cw : CW) : LTS := (sSeq (sAsg (xMeth G.cN "touched_by" 2 (cw .Near_touched_by) (xVar 0) (xCons (xVar 1) (xCons (xVar 2) xNil))) (gNm 3)) (sSeq (sDrop (xMeth G.cW "drop" 2 (cw .World_drop) (xFld G.cN "world" (xVar 0)) (xCons (xVar 1) (xCons (xVar 2) xNil)))) (sRet (xTup (xCons (xC .non) (xCons (xMeth G.cN "forget" 1 (cw .Near_forget) (xVar 0) (xCons (xVar 3) xNil)) xNil))))))
def B_Near_turn (G : GA) (cw : CW) : LTS := (sSeq (sAsg (xMeth G.cN "touched_by" 2 (cw .Near_touched_by) (xVar 0) (xCons (xVar 1) (xCons (xC .non) xNil))) (gNm 3)) (sSeq (sDrop (xMeth G.cW "turn" 2 (cw .World_turn) (xFld G.cN "world" (xVar 0)) (xCons (xVar 1) (xCons (xVar 2) xNil)))) (sRet (xTup (xCons (xC .non) (xCons (xMeth G.cN "forget" 1 (cw .Near_forget) (xVar 0) (xCons (xVar 3) xNil)) xNil))))))
def B_Near_need_spot (G : GA) (cw : CW) : LTS := (sIf (xNotT (xTest (xChain lLe lLt (xC (.int 0)) (xVar 1) (xCB lLen (xCons (xFld G.cN "spots" (xVar 0)) xNil))))) (sRaise G.eNoSpot) sNext)
def B_Near_ask (G : GA) (cw : CW) : LTS := (sSeq (sDrop (xMeth G.cN "need_spot" 1 (cw .Near_need_spot) (xVar 0) (xCons (xVar 1) xNil))) (sSeq (sDrop (xMeth G.cW "need_kind" 1 (cw .World_need_kind) (xFld G.cN "world" (xVar 0)) (xCons (xVar 2) xNil))) (sSeq (sAsg (xCB lDictP (xCons (xBin lIx (xFld G.cN "kept" (xVar 0)) (xVar 1)) xNil)) (gNm 3)) (sSeq (sAsg (xLc true (iLst (xBin lIx (xFld G.cN "kept" (xVar 0)) (xVar 1))) (gNm 5) (xTest (xBin (lEq true) (xBin lIx (xVar 5) (xC (.int 0))) (xVar 2))) (xVar 5) [5]) (gNm 4)) (sSeq (sIf (xTest (xBin (lIn false) (xVar 2) (xVar 3))) (sSeq (sFld G.cN "hits" (xVar 0) (xBin lAdd (xFld G.cN "hits" (xVar 0)) (xC (.int 1)))) (sSeq (sAsg (xBin (lCat true) (xVar 4) (xLst true (xCons (xTup (xCons (xVar 2) (xCons (xBin lIx (xVar 3) (xVar 2)) xNil))) xNil))) (gSubL (xFld G.cN "kept" (xVar 0)) (xVar 1))) (sRet (xTup (xCons (xBin lIx (xVar 3) (xVar 2)) (xCons (xC (.bl true)) xNil)))))) sNext) (sSeq (sFld G.cN "misses" (xVar 0) (xBin lAdd (xFld G.cN "misses" (xVar 0)) (xC (.int 1)))) (sSeq (sIf (xTest (xBin lGe (xCB lLen (xCons (xVar 4) xNil)) (xFld G.cN "wide" (xVar 0)))) (sSeq (sFld G.cN "thrown" (xVar 0) (xBin lAdd (xFld G.cN "thrown" (xVar 0)) (xC (.int 1)))) (sAsg (xSl true (xVar 4) (xPart (xC (.int 1))) xNoPart) (gNm 4))) sNext) (sSeq (sAsg (xMeth G.cW "found_by" 2 (cw .World_found_by) (xFld G.cN "world" (xVar 0)) (xCons (xVar 2) (xCons (xBin lIx (xFld G.cN "spots" (xVar 0)) (xVar 1)) xNil))) (gNm 6)) (sSeq (sAsg (xBin (lCat true) (xVar 4) (xLst true (xCons (xTup (xCons (xVar 2) (xCons (xVar 6) xNil))) xNil))) (gSubL (xFld G.cN "kept" (xVar 0)) (xVar 1))) (sRet (xTup (xCons (xVar 6) (xCons (xC (.bl false)) xNil)))))))))))))
def B_Near_entries (G : GA) (cw : CW) : LTS := (sSeq (sDrop (xMeth G.cN "need_spot" 1 (cw .Near_need_spot) (xVar 0) (xCons (xVar 1) xNil))) (sRet (xCB (lList false) (xCons (xBin lIx (xFld G.cN "kept" (xVar 0)) (xVar 1)) xNil))))
def B_Near_counts (G : GA) (cw : CW) : LTS := (sRet (xTup (xCons (xFld G.cN "hits" (xVar 0)) (xCons (xFld G.cN "misses" (xVar 0)) (xCons (xFld G.cN "forgotten" (xVar 0)) (xCons (xFld G.cN "thrown" (xVar 0)) xNil))))))
def B_Near_kinds (G : GA) (cw : CW) : LTS := (sRet (xMeth G.cW "kinds" 0 (cw .World_kinds) (xFld G.cN "world" (xVar 0)) xNil))
def B_l_near (G : GA) (cw : CW) : LTS := (sSeq (sAsg (xSl true (xC (.str "abcdef")) xNoPart (xPart (xBin lAdd (xC (.int 1)) (xCall 2 (cw .l_next) (xCons (xVar 0) (xCons (xC (.int 6)) xNil)))))) (gNm 1)) (sSeq (sAsg (xMt "str" lJoin (xC (.str "")) (xCons (xLc true (iRng (xBin lAdd (xC (.int 1)) (xCall 2 (cw .l_next) (xCons (xVar 0) (xCons (xC (.int 8)) xNil))))) (gNm 3) xYes (xBin lIx (xVar 1) (xCall 2 (cw .l_next) (xCons (xVar 0) (xCons (xCB lLen (xCons (xVar 1) xNil)) xNil)))) [3]) xNil)) (gNm 2)) (sRet (xTup (xCons (xVar 2) (xCons (xBin lAdd (xC (.int 1)) (xCall 2 (cw .l_next) (xCons (xVar 0) (xCons (xC (.int 6)) xNil)))) (xCons (xBin lIx (xLst true (xCons (xC (.str "all")) (xCons (xC (.str "deed")) (xCons (xC (.str "below")) (xCons (xC (.str "just")) xNil))))) (xCall 2 (cw .l_next) (xCons (xVar 0) (xCons (xC (.int 4)) xNil)))) xNil)))))))
def B_l_fresh (G : GA) (cw : CW) : LTS := (sSeq (sAsg (xDisp [((xC (.str "spots")), (xVar 0)), ((xC (.str "wide")), (xVar 1)), ((xC (.str "rule")), (xVar 2)), ((xC (.str "world")), (xCall 0 (cw .l_world) xNil))]) (gNm 3)) (sSeq (sDrop (xMt "dict" lUpd (xVar 3) (xCons (xDisp [((xC (.str "kept")), (xLc false (iStr (xVar 0)) (gNm 4) xYes (xLst false xNil) [4])), ((xC (.str "counts")), (xLst false (xCons (xC (.int 0)) (xCons (xC (.int 0)) (xCons (xC (.int 0)) (xCons (xC (.int 0)) xNil)))))), ((xC (.str "needless")), (xC (.int 0)))]) xNil))) (sRet (xVar 3))))
def B_l_forgets (G : GA) (cw : CW) : LTS := (sSeq (sIf (xTest (xBin (lEq false) (xBin lIx (xVar 0) (xC (.str "rule"))) (xC (.str "all")))) (sRet (xC (.bl true))) sNext) (sSeq (sIf (xAndT (xTest (xBin (lEq true) (xBin lIx (xVar 1) (xC (.int 0))) (xC (.str "turn")))) (xTest (xBin (lEq true) (xBin lIx (xVar 1) (xC (.int 2))) (xBin lIx (xBin lIx (xVar 0) (xC (.str "spots"))) (xVar 3))))) (sRet (xC (.bl false))) sNext) (sRet (xOr (xBin (lEq false) (xBin lIx (xVar 0) (xC (.str "rule"))) (xC (.str "deed"))) (xBin (lIn false) (xBin lIx (xVar 1) (xC (.int 1))) (xCall 2 (cw .l_up) (xCons (xBin lIx (xVar 0) (xC (.str "world"))) (xCons (xVar 2) xNil))))))))
def B_l_ask (G : GA) (cw : CW) : LTS := (sSeq (sIf (xNotT (xTest (xChain lLe lLt (xC (.int 0)) (xVar 1) (xCB lLen (xCons (xBin lIx (xVar 0) (xC (.str "spots"))) xNil))))) (sRet (xC (.str "NoSpot"))) sNext) (sSeq (sIf (xNotT (xTest (xChain lLe lLt (xC (.int 0)) (xVar 2) (xCB lLen (xCons (xBin lIx (xBin lIx (xVar 0) (xC (.str "world"))) (xC (.str "elders"))) xNil))))) (sRet (xC (.str "NoKind"))) sNext) (sSeq (sAsg (xBin lIx (xBin lIx (xVar 0) (xC (.str "kept"))) (xVar 1)) (gNm 3)) (sSeq (sAsg (xLc true (iLst (xVar 3)) (gNm 5) (xTest (xBin (lEq false) (xBin lIx (xVar 5) (xC (.int 0))) (xVar 2))) (xVar 5) [5]) (gNm 4)) (sSeq (sAsg (xCB lInt (xCons (xBin (lEq false) (xVar 4) (xLst true xNil)) xNil)) (gNm 6)) (sSeq (sAsg (xBin lAdd (xBin lIx (xBin lIx (xVar 0) (xC (.str "counts"))) (xVar 6)) (xC (.int 1))) (gSubL (xBin lIx (xVar 0) (xC (.str "counts"))) (xVar 6))) (sSeq (sIf (xAndT (xTest (xBin (lEq false) (xVar 4) (xLst true xNil))) (xTest (xBin (lEq false) (xCB lLen (xCons (xVar 3) xNil)) (xBin lIx (xVar 0) (xC (.str "wide")))))) (sSeq (sDrop (xMt "list" lPop0 (xVar 3) (xCons (xC (.int 0)) xNil))) (sAsg (xBin lAdd (xBin lIx (xBin lIx (xVar 0) (xC (.str "counts"))) (xC (.int 3))) (xC (.int 1))) (gSubL (xBin lIx (xVar 0) (xC (.str "counts"))) (xC (.int 3))))) sNext) (sSeq (sAsg (xCall 3 (cw .l_find) (xCons (xBin lIx (xVar 0) (xC (.str "world"))) (xCons (xVar 2) (xCons (xBin lIx (xBin lIx (xVar 0) (xC (.str "spots"))) (xVar 1)) xNil)))) (gNm 7)) (sSeq (sAsg (xIf (xTest (xBin (lEq true) (xVar 4) (xLst true xNil))) (xBin lIx (xVar 4) (xC (.int 0))) (xTup (xCons (xVar 2) (xCons (xVar 7) xNil)))) (gNm 5)) (sSeq (sAsg (xBin (lCat false) (xLc true (iLst (xVar 3)) (gNm 8) (xTest (xBin (lEq true) (xBin lIx (xVar 8) (xC (.int 0))) (xVar 2))) (xVar 8) [8]) (xLst true (xCons (xVar 5) xNil))) (gSubL (xBin lIx (xVar 0) (xC (.str "kept"))) (xVar 1))) (sRet (xTup (xCons (xBin lIx (xVar 5) (xC (.int 1))) (xCons (xBin (lEq true) (xVar 4) (xLst true xNil)) xNil))))))))))))))
def B_l_do (G : GA) (cw : CW) : LTS := (sSeq (sIf (xTest (xBin (lEq false) (xBin lIx (xVar 1) (xC (.int 0))) (xC (.str "ask")))) (sRet (xCall 3 (cw .l_ask) (xCons (xVar 0) (xCons (xBin lIx (xVar 1) (xC (.int 1))) (xCons (xBin lIx (xVar 1) (xC (.int 2))) xNil))))) sNext) (sSeq (sAsg (xCall 2 (cw .l_word) (xCons (xBin lIx (xVar 0) (xC (.str "world"))) (xCons (xVar 1) xNil))) (gNm 2)) (sSeq (sIf (xTest (xBin (lEq true) (xVar 2) (xC (.str "")))) (sRet (xVar 2)) sNext) (sSeq (sAsg xDT (gNm 3)) (sSeq (sFor (iRng (xCB lLen (xCons (xBin lIx (xVar 0) (xC (.str "spots"))) xNil))) (gNm 4) (sFor (iLst (xBin lIx (xBin lIx (xVar 0) (xC (.str "kept"))) (xVar 4))) (gTp [5, 6]) (sAsg (xAnd (xBin (lEq true) (xBin lIx (xVar 1) (xC (.int 0))) (xC (.str "add"))) (xCall 4 (cw .l_forgets) (xCons (xVar 0) (xCons (xVar 1) (xCons (xVar 5) (xCons (xVar 4) xNil)))))) (gSubL (xVar 3) (xTup (xCons (xVar 4) (xCons (xVar 5) xNil))))))) (sSeq (sAsg (xCall 2 (cw .l_change) (xCons (xBin lIx (xVar 0) (xC (.str "world"))) (xCons (xVar 1) xNil))) (gNm 7)) (sSeq (sAsg (xLst false xNil) (gNm 8)) (sSeq (sFor (iRng (xCB lLen (xCons (xBin lIx (xVar 0) (xC (.str "spots"))) xNil))) (gNm 4) (sFor (iLst (xCB (lList true) (xCons (xBin lIx (xBin lIx (xVar 0) (xC (.str "kept"))) (xVar 4)) xNil))) (gTp [5, 6]) (sSeq (sAsg (xBin (lEq false) (xCall 3 (cw .l_find) (xCons (xBin lIx (xVar 0) (xC (.str "world"))) (xCons (xVar 5) (xCons (xBin lIx (xBin lIx (xVar 0) (xC (.str "spots"))) (xVar 4)) xNil)))) (xVar 6)) (gNm 9)) (sIf (xIfT (xTest (xBin (lEq true) (xBin lIx (xVar 0) (xC (.str "rule"))) (xC (.str "just")))) (xTest (xBin lIx (xVar 3) (xTup (xCons (xVar 4) (xCons (xVar 5) xNil))))) (xNotT (xTest (xVar 9)))) (sSeq (sDrop (xMt "list" lAppend (xVar 8) (xCons (xTup (xCons (xVar 4) (xCons (xVar 5) xNil))) xNil))) (sSeq (sDrop (xMt "list" lRemove (xBin lIx (xBin lIx (xVar 0) (xC (.str "kept"))) (xVar 4)) (xCons (xTup (xCons (xVar 5) (xCons (xVar 6) xNil))) xNil))) (sSeq (sAsg (xBin lAdd (xBin lIx (xBin lIx (xVar 0) (xC (.str "counts"))) (xC (.int 2))) (xC (.int 1))) (gSubL (xBin lIx (xVar 0) (xC (.str "counts"))) (xC (.int 2)))) (sAsg (xBin lAdd (xBin lIx (xVar 0) (xC (.str "needless"))) (xCB lInt (xCons (xVar 9) xNil))) (gSubL (xVar 0) (xC (.str "needless"))))))) sNext)))) (sRet (xTup (xCons (xVar 7) (xCons (xCB (lSortP true) (xCons (xVar 8) xNil)) xNil))))))))))))
def B_l_asks (G : GA) (cw : CW) : LTS := (sSeq (sAsg (xCB lLen (xCons (xBin lIx (xBin lIx (xVar 1) (xC (.str "world"))) (xC (.str "elders"))) xNil)) (gNm 2)) (sSeq (sIf (xAndT (xTest (xBin lGt (xVar 2) (xC (.int 1)))) (xTest (xBin lGt (xCall 2 (cw .l_next) (xCons (xVar 0) (xCons (xC (.int 3)) xNil))) (xC (.int 0))))) (sSeq (sAsg (xBin lIx (xLst true (xCons (xVar 2) (xCons (xCB lMin (xCons (xVar 2) (xCons (xC (.int 3)) xNil))) xNil))) (xCall 2 (cw .l_next) (xCons (xVar 0) (xCons (xC (.int 2)) xNil)))) (gNm 3)) (sRet (xTup (xCons (xC (.str "ask")) (xCons (xCall 2 (cw .l_next) (xCons (xVar 0) (xCons (xCB lLen (xCons (xBin lIx (xVar 1) (xC (.str "spots"))) xNil)) xNil))) (xCons (xCall 2 (cw .l_next) (xCons (xVar 0) (xCons (xVar 3) xNil))) xNil)))))) sNext) (sSeq (sIf (xTest (xBin (lEq false) (xCall 2 (cw .l_next) (xCons (xVar 0) (xCons (xC (.int 12)) xNil))) (xC (.int 11)))) (sSeq (sAsg (xBin lIx (xLst true (xCons (xVar 2) (xCons (xNeg (xC (.int 1))) (xCons (xBin lAdd (xVar 2) (xCall 2 (cw .l_next) (xCons (xVar 0) (xCons (xBin lPow (xC (.int 10)) (xC (.int 6))) xNil)))) xNil)))) (xCall 2 (cw .l_next) (xCons (xVar 0) (xCons (xC (.int 3)) xNil)))) (gNm 4)) (sSeq (sAsg (xBin lIx (xLst true (xCons (xBin lAdd (xCB lLen (xCons (xBin lIx (xVar 1) (xC (.str "spots"))) xNil)) (xCall 2 (cw .l_next) (xCons (xVar 0) (xCons (xC (.int 9)) xNil)))) (xCons (xBin lSub (xNeg (xC (.int 1))) (xCall 2 (cw .l_next) (xCons (xVar 0) (xCons (xC (.int 3)) xNil)))) xNil))) (xCall 2 (cw .l_next) (xCons (xVar 0) (xCons (xC (.int 2)) xNil)))) (gNm 5)) (sRet (xBin lIx (xLst true (xCons (xTup (xCons (xC (.str "ask")) (xCons (xC (.int 0)) (xCons (xVar 4) xNil)))) (xCons (xTup (xCons (xC (.str "ask")) (xCons (xVar 5) (xCons (xVar 4) xNil)))) (xCons (xCall 2 (cw .l_odd) (xCons (xVar 0) (xCons (xBin lIx (xVar 1) (xC (.str "world"))) xNil))) xNil)))) (xCall 2 (cw .l_next) (xCons (xVar 0) (xCons (xC (.int 3)) xNil))))))) sNext) (sRet (xCall 2 (cw .l_step) (xCons (xVar 0) (xCons (xBin lIx (xVar 1) (xC (.str "world"))) xNil)))))))
def B_l_does_k02 (G : GA) (cw : CW) : LTS := (sTryN (tblG G) (sSeq (sIf (xTest (xBin (lEq false) (xBin lIx (xVar 1) (xC (.int 0))) (xC (.str "add")))) (sRet (xMeth G.cN "add" 1 (cw .Near_add) (xVar 0) (xCons (xBin lIx (xVar 1) (xC (.int 1))) xNil))) sNext) (sSeq (sIf (xTest (xBin (lEq false) (xBin lIx (xVar 1) (xC (.int 0))) (xC (.str "put")))) (sRet (xMeth G.cN "put" 3 (cw .Near_put) (xVar 0) (xCons (xBin lIx (xVar 1) (xC (.int 1))) (xCons (xBin lIx (xVar 1) (xC (.int 2))) (xCons (xBin lIx (xVar 1) (xC (.int 3))) xNil))))) sNext) (sSeq (sIf (xTest (xBin (lEq false) (xBin lIx (xVar 1) (xC (.int 0))) (xC (.str "drop")))) (sRet (xMeth G.cN "drop" 2 (cw .Near_drop) (xVar 0) (xCons (xBin lIx (xVar 1) (xC (.int 1))) (xCons (xBin lIx (xVar 1) (xC (.int 2))) xNil)))) sNext) (sRet (xIf (xTest (xBin (lEq false) (xBin lIx (xVar 1) (xC (.int 0))) (xC (.str "turn")))) (xMeth G.cN "turn" 2 (cw .Near_turn) (xVar 0) (xCons (xBin lIx (xVar 1) (xC (.int 1))) (xCons (xBin lIx (xVar 1) (xC (.int 2))) xNil))) (xMeth G.cN "ask" 2 (cw .Near_ask) (xVar 0) (xCons (xBin lIx (xVar 1) (xC (.int 1))) (xCons (xBin lIx (xVar 1) (xC (.int 2))) xNil)))))))))
def B_l_is (G : GA) (cw : CW) : LTS := (sSeq (sFor (iRng (xCB lLen (xCons (xBin lIx (xVar 1) (xC (.str "spots"))) xNil))) (gNm 2) (sIf (xNotT (xTest (xCall 2 (cw .l_alike) (xCons (xMeth G.cN "entries" 1 (cw .Near_entries) (xVar 0) (xCons (xVar 2) xNil)) (xCons (xBin lIx (xBin lIx (xVar 1) (xC (.str "kept"))) (xVar 2)) xNil))))) (sRet (xC (.bl false))) sNext)) (sRet (xCall 2 (cw .l_alike) (xCons (xLst true (xCons (xMeth G.cN "counts" 0 (cw .Near_counts) (xVar 0) xNil) (xCons (xMeth G.cN "kinds" 0 (cw .Near_kinds) (xVar 0) xNil) xNil))) (xCons (xLst true (xCons (xCB lTuple (xCons (xBin lIx (xVar 1) (xC (.str "counts"))) xNil)) (xCons (xCall 1 (cw .l_kinds) (xCons (xBin lIx (xVar 1) (xC (.str "world"))) xNil)) xNil))) xNil)))))
def B_law_k02 (G : GA) (cw : CW) : LTS := (sSeq (sAsg (xCall 2 (cw .l_mix) (xCons (xVar 0) (xCons (xC (.int 5)) xNil))) (gNm 1)) (sSeq (sAsg (xCall 1 (cw .l_near) (xCons (xVar 1) xNil)) (gTp [2, 3, 4])) (sSeq (sAsg (xMake G.cN 3 (cw .Near_init) (xCons (xVar 2) (xCons (xVar 3) (xCons (xVar 4) xNil)))) (gNm 5)) (sSeq (sAsg (xCall 3 (cw .l_fresh) (xCons (xVar 2) (xCons (xVar 3) (xCons (xVar 4) xNil)))) (gNm 6)) (sSeq (sFor (iRng (xCall 2 (cw .l_next) (xCons (xVar 1) (xCons (xC (.int 91)) xNil)))) (gNm 7) (sSeq (sAsg (xCall 2 (cw .l_asks) (xCons (xVar 1) (xCons (xVar 6) xNil))) (gNm 8)) (sSeq (sAsg (xCall 2 (cw .l_do) (xCons (xVar 6) (xCons (xVar 8) xNil))) (gNm 9)) (sSeq (sAsg (xCall 2 (cw .l_does_k02) (xCons (xVar 5) (xCons (xVar 8) xNil))) (gNm 10)) (sSeq (sIf (xOrT (xNotT (xTest (xCall 2 (cw .l_alike) (xCons (xVar 10) (xCons (xVar 9) xNil))))) (xNotT (xTest (xCall 2 (cw .l_is) (xCons (xVar 5) (xCons (xVar 6) xNil)))))) (sRet (xC (.bl false))) sNext) (sSeq (sIf (xAndT (xTest (xBin (lEq true) (xBin lIx (xVar 8) (xC (.int 0))) (xC (.str "ask")))) (xTest (xCB lIsi (xCons (xVar 10) (xCons (xC (.ty "tuple")) xNil))))) (sDrop (xMt "list" lAppend (xBin lIx (xVar 10) (xC (.int 1))) (xCons (xTup (xCons (xC (.int 0)) (xCons (xC (.int 0)) xNil))) xNil))) sNext) (sSeq (sDrop (xMt "list" lClear (xMeth G.cN "entries" 1 (cw .Near_entries) (xVar 5) (xCons (xC (.int 0)) xNil)) xNil)) (sDrop (xMt "list" lAppend (xMeth G.cN "kinds" 0 (cw .Near_kinds) (xVar 5) xNil) (xCons (xTup xNil) xNil)))))))))) (sSeq (sAsg (xBin lIx (xLst true (xCons (xCB lLen (xCons (xVar 2) xNil)) (xCons (xNeg (xC (.int 1))) (xCons (xBin lAdd (xCB lLen (xCons (xVar 2) xNil)) (xCall 2 (cw .l_next) (xCons (xVar 1) (xCons (xBin lPow (xC (.int 10)) (xC (.int 6))) xNil)))) xNil)))) (xCall 2 (cw .l_next) (xCons (xVar 1) (xCons (xC (.int 3)) xNil)))) (gNm 11)) (sRet (xAnd (xCall 2 (cw .l_is) (xCons (xVar 5) (xCons (xVar 6) xNil))) (xBin (lEq false) (xLam (tblG G) (xMeth G.cN "entries" 1 (cw .Near_entries) (xVar 5) (xCons (xVar 11) xNil))) (xC (.str "NoSpot")))))))))))
def B_l_done (G : GA) (cw : CW) : LTS := (sIf (xTest (xBin (lEq false) (xBin lIx (xVar 1) (xC (.int 0))) (xC (.str "add")))) (sDrop (xOrE (xMeth G.cW "add" 1 (cw .World_add) (xVar 0) (xCons (xBin lIx (xVar 1) (xC (.int 1))) xNil)) (xMeth G.cN "add" 1 (cw .Near_add) (xVar 0) (xCons (xBin lIx (xVar 1) (xC (.int 1))) xNil)))) (sIf (xTest (xBin (lEq false) (xBin lIx (xVar 1) (xC (.int 0))) (xC (.str "put")))) (sDrop (xOrE (xMeth G.cW "put" 3 (cw .World_put) (xVar 0) (xCons (xBin lIx (xVar 1) (xC (.int 1))) (xCons (xBin lIx (xVar 1) (xC (.int 2))) (xCons (xBin lIx (xVar 1) (xC (.int 3))) xNil)))) (xMeth G.cN "put" 3 (cw .Near_put) (xVar 0) (xCons (xBin lIx (xVar 1) (xC (.int 1))) (xCons (xBin lIx (xVar 1) (xC (.int 2))) (xCons (xBin lIx (xVar 1) (xC (.int 3))) xNil)))))) (sIf (xTest (xBin (lEq false) (xBin lIx (xVar 1) (xC (.int 0))) (xC (.str "drop")))) (sDrop (xOrE (xMeth G.cW "drop" 2 (cw .World_drop) (xVar 0) (xCons (xBin lIx (xVar 1) (xC (.int 1))) (xCons (xBin lIx (xVar 1) (xC (.int 2))) xNil))) (xMeth G.cN "drop" 2 (cw .Near_drop) (xVar 0) (xCons (xBin lIx (xVar 1) (xC (.int 1))) (xCons (xBin lIx (xVar 1) (xC (.int 2))) xNil))))) (sDrop (xOrE (xMeth G.cW "turn" 2 (cw .World_turn) (xVar 0) (xCons (xBin lIx (xVar 1) (xC (.int 1))) (xCons (xBin lIx (xVar 1) (xC (.int 2))) xNil))) (xMeth G.cN "turn" 2 (cw .Near_turn) (xVar 0) (xCons (xBin lIx (xVar 1) (xC (.int 1))) (xCons (xBin lIx (xVar 1) (xC (.int 2))) xNil))))))))
def B_l_are_true (G : GA) (cw : CW) : LTS := (sSeq (sFor (iRng (xCB lLen (xCons (xVar 1) xNil))) (gNm 3) (sFor (iLst (xMeth G.cN "entries" 1 (cw .Near_entries) (xVar 0) (xCons (xVar 3) xNil))) (gTp [4, 5]) (sIf (xNotT (xTest (xCall 2 (cw .l_alike) (xCons (xVar 5) (xCons (xMeth G.cW "find" 2 (cw .World_find) (xVar 2) (xCons (xVar 4) (xCons (xBin lIx (xVar 1) (xVar 3)) xNil))) xNil))))) (sRet (xC (.bl false))) sNext))) (sRet (xC (.bl true))))
def B_law_k03 (G : GA) (cw : CW) : LTS := (sSeq (sAsg (xCall 2 (cw .l_mix) (xCons (xVar 0) (xCons (xC (.int 7)) xNil))) (gNm 1)) (sSeq (sAsg (xCall 1 (cw .l_near) (xCons (xVar 1) xNil)) (gTp [2, 3, 4])) (sSeq (sAsg (xMake G.cW 0 (cw .World_init) xNil) (gNm 5)) (sSeq (sAsg (xCall 3 (cw .l_fresh) (xCons (xVar 2) (xCons (xVar 3) (xCons (xVar 4) xNil)))) (gNm 6)) (sSeq (sAsg (xLc true (iLst (xLst true (xCons (xC (.str "all")) (xCons (xC (.str "deed")) (xCons (xC (.str "below")) (xCons (xC (.str "just")) xNil)))))) (gNm 8) xYes (xMake G.cN 3 (cw .Near_init) (xCons (xVar 2) (xCons (xVar 3) (xCons (xVar 8) xNil)))) [8]) (gNm 7)) (sSeq (sFor (iRng (xCall 2 (cw .l_next) (xCons (xVar 1) (xCons (xC (.int 101)) xNil)))) (gNm 9) (sSeq (sAsg (xCall 2 (cw .l_asks) (xCons (xVar 1) (xCons (xVar 6) xNil))) (gNm 10)) (sSeq (sIf (xAndT (xTest (xBin (lEq false) (xBin lIx (xVar 10) (xC (.int 0))) (xC (.str "ask")))) (xAndT (xTest (xChain lLe lLt (xC (.int 0)) (xBin lIx (xVar 10) (xC (.int 1))) (xCB lLen (xCons (xVar 2) xNil)))) (xTest (xChain lLe lLt (xC (.int 0)) (xBin lIx (xVar 10) (xC (.int 2))) (xCB lLen (xCons (xBin lIx (xBin lIx (xVar 6) (xC (.str "world"))) (xC (.str "elders"))) xNil)))))) (sFor (iLst (xVar 7)) (gNm 11) (sSeq (sAsg (xLc true (iLst (xMeth G.cN "entries" 1 (cw .Near_entries) (xVar 11) (xCons (xBin lIx (xVar 10) (xC (.int 1))) xNil))) (gNm 13) xYes (xBin lIx (xVar 13) (xC (.int 0))) [13]) (gNm 12)) (sSeq (sAsg (xTup (xCons (xMeth G.cW "find" 2 (cw .World_find) (xVar 5) (xCons (xBin lIx (xVar 10) (xC (.int 2))) (xCons (xBin lIx (xVar 2) (xBin lIx (xVar 10) (xC (.int 1)))) xNil))) (xCons (xBin (lIn false) (xBin lIx (xVar 10) (xC (.int 2))) (xVar 12)) xNil))) (gNm 14)) (sIf (xNotT (xTest (xCall 2 (cw .l_alike) (xCons (xMeth G.cN "ask" 2 (cw .Near_ask) (xVar 11) (xCons (xBin lIx (xVar 10) (xC (.int 1))) (xCons (xBin lIx (xVar 10) (xC (.int 2))) xNil))) (xCons (xVar 14) xNil))))) (sRet (xC (.bl false))) sNext)))) (sIf (xAndT (xTest (xBin (lEq true) (xBin lIx (xVar 10) (xC (.int 0))) (xC (.str "ask")))) (xTest (xBin (lEq false) (xCall 2 (cw .l_word) (xCons (xBin lIx (xVar 6) (xC (.str "world"))) (xCons (xVar 10) xNil))) (xC (.str ""))))) (sSeq (sDrop (xCall 2 (cw .l_change) (xCons (xBin lIx (xVar 6) (xC (.str "world"))) (xCons (xVar 10) xNil)))) (sSeq (sDrop (xCall 2 (cw .l_done) (xCons (xVar 5) (xCons (xVar 10) xNil)))) (sFor (iLst (xVar 7)) (gNm 11) (sDrop (xCall 2 (cw .l_done) (xCons (xVar 11) (xCons (xVar 10) xNil))))))) sNext)) (sIf (xTest (xBin (lEq true) (xLc true (iLst (xVar 7)) (gNm 11) (xNotT (xTest (xCall 3 (cw .l_are_true) (xCons (xVar 11) (xCons (xVar 2) (xCons (xVar 5) xNil)))))) (xVar 11) [11]) (xLst true xNil))) (sRet (xC (.bl false))) sNext)))) (sRet (xC (.bl true)))))))))
def B_l_done_k04 (G : GA) (cw : CW) : LTS := (sSeq (sIf (xTest (xBin (lEq false) (xBin lIx (xVar 1) (xC (.int 0))) (xC (.str "add")))) (sRet (xOrE (xMeth G.cW "add" 1 (cw .World_add) (xVar 0) (xCons (xBin lIx (xVar 1) (xC (.int 1))) xNil)) (xMeth G.cN "add" 1 (cw .Near_add) (xVar 0) (xCons (xBin lIx (xVar 1) (xC (.int 1))) xNil)))) sNext) (sSeq (sIf (xTest (xBin (lEq false) (xBin lIx (xVar 1) (xC (.int 0))) (xC (.str "put")))) (sRet (xOrE (xMeth G.cW "put" 3 (cw .World_put) (xVar 0) (xCons (xBin lIx (xVar 1) (xC (.int 1))) (xCons (xBin lIx (xVar 1) (xC (.int 2))) (xCons (xBin lIx (xVar 1) (xC (.int 3))) xNil)))) (xMeth G.cN "put" 3 (cw .Near_put) (xVar 0) (xCons (xBin lIx (xVar 1) (xC (.int 1))) (xCons (xBin lIx (xVar 1) (xC (.int 2))) (xCons (xBin lIx (xVar 1) (xC (.int 3))) xNil)))))) sNext) (sRet (xIf (xTest (xBin (lEq false) (xBin lIx (xVar 1) (xC (.int 0))) (xC (.str "drop")))) (xOrE (xMeth G.cW "drop" 2 (cw .World_drop) (xVar 0) (xCons (xBin lIx (xVar 1) (xC (.int 1))) (xCons (xBin lIx (xVar 1) (xC (.int 2))) xNil))) (xMeth G.cN "drop" 2 (cw .Near_drop) (xVar 0) (xCons (xBin lIx (xVar 1) (xC (.int 1))) (xCons (xBin lIx (xVar 1) (xC (.int 2))) xNil)))) (xOrE (xMeth G.cW "turn" 2 (cw .World_turn) (xVar 0) (xCons (xBin lIx (xVar 1) (xC (.int 1))) (xCons (xBin lIx (xVar 1) (xC (.int 2))) xNil))) (xMeth G.cN "turn" 2 (cw .Near_turn) (xVar 0) (xCons (xBin lIx (xVar 1) (xC (.int 1))) (xCons (xBin lIx (xVar 1) (xC (.int 2))) xNil))))))))
def B_l_kept (G : GA) (cw : CW) : LTS := (sSeq (sAsg xDT (gNm 2)) (sSeq (sFor (iRng (xCB lLen (xCons (xVar 1) xNil))) (gNm 3) (sDrop (xMt "dict" lUpdT (xVar 2) (xCons (xLc true (iLst (xMeth G.cN "entries" 1 (cw .Near_entries) (xVar 0) (xCons (xVar 3) xNil))) (gTp [4, 5]) xYes (xTup (xCons (xTup (xCons (xVar 3) (xCons (xVar 4) xNil))) (xCons (xVar 5) xNil))) [4, 5]) xNil)))) (sRet (xVar 2))))
def B_law_k04 (G : GA) (cw : CW) : LTS := (sSeq (sAsg (xCall 2 (cw .l_mix) (xCons (xVar 0) (xCons (xC (.int 11)) xNil))) (gNm 1)) (sSeq (sAsg (xCall 1 (cw .l_near) (xCons (xVar 1) xNil)) (gTp [2, 3, 4])) (sSeq (sAsg (xCall 3 (cw .l_fresh) (xCons (xVar 2) (xCons (xVar 3) (xCons (xVar 4) xNil)))) (gNm 5)) (sSeq (sAsg (xMake G.cW 0 (cw .World_init) xNil) (gNm 6)) (sSeq (sAsg (xLc true (iLst (xLst true (xCons (xC (.str "just")) (xCons (xC (.str "below")) (xCons (xC (.str "deed")) (xCons (xC (.str "all")) xNil)))))) (gNm 8) xYes (xMake G.cN 3 (cw .Near_init) (xCons (xVar 2) (xCons (xVar 3) (xCons (xVar 8) xNil)))) [8]) (gNm 7)) (sSeq (sFor (iRng (xBin lAdd (xC (.int 20)) (xCall 2 (cw .l_next) (xCons (xVar 1) (xCons (xC (.int 41)) xNil))))) (gNm 9) (sSeq (sAsg (xCall 2 (cw .l_asks) (xCons (xVar 1) (xCons (xVar 5) xNil))) (gNm 10)) (sIf (xTest (xBin (lEq false) (xBin lIx (xVar 10) (xC (.int 0))) (xC (.str "ask")))) (sIf (xAndT (xTest (xChain lLe lLt (xC (.int 0)) (xBin lIx (xVar 10) (xC (.int 1))) (xCB lLen (xCons (xVar 2) xNil)))) (xTest (xChain lLe lLt (xC (.int 0)) (xBin lIx (xVar 10) (xC (.int 2))) (xCB lLen (xCons (xBin lIx (xBin lIx (xVar 5) (xC (.str "world"))) (xC (.str "elders"))) xNil))))) (sFor (iLst (xVar 7)) (gNm 11) (sDrop (xMeth G.cN "ask" 2 (cw .Near_ask) (xVar 11) (xCons (xBin lIx (xVar 10) (xC (.int 1))) (xCons (xBin lIx (xVar 10) (xC (.int 2))) xNil))))) sNext) (sIf (xTest (xBin (lEq false) (xCall 2 (cw .l_word) (xCons (xBin lIx (xVar 5) (xC (.str "world"))) (xCons (xVar 10) xNil))) (xC (.str "")))) (sSeq (sDrop (xCall 2 (cw .l_change) (xCons (xBin lIx (xVar 5) (xC (.str "world"))) (xCons (xVar 10) xNil)))) (sSeq (sDrop (xCall 2 (cw .l_done_k04) (xCons (xVar 6) (xCons (xVar 10) xNil)))) (sSeq (sAsg (xLc true (iLst (xVar 7)) (gNm 11) xYes (xCall 2 (cw .l_kept) (xCons (xVar 11) (xCons (xVar 2) xNil))) [11]) (gNm 12)) (sSeq (sAsg (xLc true (iLst (xVar 7)) (gNm 11) xYes (xBin lIx (xCall 2 (cw .l_done_k04) (xCons (xVar 11) (xCons (xVar 10) xNil))) (xC (.int 1))) [11]) (gNm 13)) (sFor (iRng (xC (.int 4))) (gNm 14) (sSeq (sAsg (xCB (lSortP true) (xCons (xLk (xLc true (iKeyT (xBin lIx (xVar 12) (xVar 14))) (gNm 16) (xTest (xBin (lEq true) (xMeth G.cW "find" 2 (cw .World_find) (xVar 6) (xCons (xBin lIx (xVar 16) (xC (.int 1))) (xCons (xBin lIx (xVar 2) (xBin lIx (xVar 16) (xC (.int 0)))) xNil))) (xBin lIx (xBin lIx (xVar 12) (xVar 14)) (xVar 16)))) (xVar 16) [16])) xNil)) (gNm 15)) (sSeq (sIf (xOrT (xTest (xBin (lEq true) (xLc true (iLst (xVar 15)) (gNm 16) (xTest (xBin (lIn true) (xVar 16) (xBin lIx (xVar 13) (xVar 14)))) (xVar 16) [16]) (xLst true xNil))) (xAndT (xTest (xBin (lEq false) (xVar 14) (xC (.int 0)))) (xTest (xBin (lEq true) (xBin lIx (xVar 13) (xC (.int 0))) (xVar 15))))) (sRet (xC (.bl false))) sNext) (sSeq (sIf (xOrT (xTest (xBin (lEq true) (xLc true (iLst (xBin lIx (xVar 13) (xVar 14))) (gNm 16) (xTest (xBin (lIn true) (xVar 16) (xBin lIx (xVar 12) (xVar 14)))) (xVar 16) [16]) (xLst true xNil))) (xAndT (xTest (xBin (lEq false) (xBin lIx (xVar 10) (xC (.int 0))) (xC (.str "add")))) (xTest (xBin (lEq true) (xBin lIx (xVar 13) (xVar 14)) (xLst true xNil))))) (sRet (xC (.bl false))) sNext) (sFor (iRng (xVar 14)) (gNm 17) (sIf (xTest (xBin (lEq true) (xLc true (iLst (xBin lIx (xVar 13) (xVar 17))) (gNm 16) (xAndT (xTest (xBin (lIn false) (xVar 16) (xBin lIx (xVar 12) (xVar 14)))) (xTest (xBin (lIn true) (xVar 16) (xBin lIx (xVar 13) (xVar 14))))) (xVar 16) [16]) (xLst true xNil))) (sRet (xC (.bl false))) sNext)))))))))) sNext)))) (sRet (xC (.bl true)))))))))
def B_told_by (G : GA) (cw : CW) : LTS := (sSeq (sIf (xTest (xBin (lEq false) (xBin lIx (xVar 1) (xC (.int 0))) (xC (.str "add")))) (sRet (xMeth G.cN "add" 1 (cw .Near_add) (xVar 0) (xCons (xBin lIx (xVar 1) (xC (.int 1))) xNil))) sNext) (sSeq (sIf (xTest (xBin (lEq false) (xBin lIx (xVar 1) (xC (.int 0))) (xC (.str "put")))) (sRet (xMeth G.cN "put" 3 (cw .Near_put) (xVar 0) (xCons (xBin lIx (xVar 1) (xC (.int 1))) (xCons (xBin lIx (xVar 1) (xC (.int 2))) (xCons (xBin lIx (xVar 1) (xC (.int 3))) xNil))))) sNext) (sSeq (sIf (xTest (xBin (lEq false) (xBin lIx (xVar 1) (xC (.int 0))) (xC (.str "drop")))) (sRet (xMeth G.cN "drop" 2 (cw .Near_drop) (xVar 0) (xCons (xBin lIx (xVar 1) (xC (.int 1))) (xCons (xBin lIx (xVar 1) (xC (.int 2))) xNil)))) sNext) (sSeq (sIf (xTest (xBin (lEq false) (xBin lIx (xVar 1) (xC (.int 0))) (xC (.str "turn")))) (sRet (xMeth G.cN "turn" 2 (cw .Near_turn) (xVar 0) (xCons (xBin lIx (xVar 1) (xC (.int 1))) (xCons (xBin lIx (xVar 1) (xC (.int 2))) xNil)))) sNext) (sRet (xMeth G.cN "ask" 2 (cw .Near_ask) (xVar 0) (xCons (xBin lIx (xVar 1) (xC (.int 1))) (xCons (xBin lIx (xVar 1) (xC (.int 2))) xNil))))))))
def B_done (G : GA) (cw : CW) : LTS := (sTryM (sRet (xCall 2 (cw .told_by) (xCons (xVar 0) (xCons (xVar 1) xNil)))) [(G.eTooMany, "TooMany"), (G.eNoKind, "NoKind"), (G.eNoDeed, "NoDeed"), (G.eNoBody, "NoBody"), (G.eRing, "Ring"), (G.eNoSpot, "NoSpot")])
def B_played (G : GA) (cw : CW) : LTS := (sSeq (sAsg (xMake G.cN 3 (cw .Near_init) (xCons (xVar 0) (xCons (xVar 1) (xCons (xVar 2) xNil)))) (gNm 4)) (sRet (xTup (xCons (xLc false (iLst (xVar 3)) (gNm 5) xYes (xCall 2 (cw .done) (xCons (xVar 4) (xCons (xVar 5) xNil))) [5]) (xCons (xVar 4) xNil)))))
def B_law_k05 (G : GA) (cw : CW) : LTS := (sSeq (sAsg (xCall 2 (cw .l_mix) (xCons (xVar 0) (xCons (xC (.int 13)) xNil))) (gNm 1)) (sSeq (sAsg (xCall 1 (cw .l_near) (xCons (xVar 1) xNil)) (gTp [2, 3, 4])) (sSeq (sAsg (xBin lIx (xLst true (xCons (xVar 3) (xCons (xC (.int 6)) xNil))) (xCB lInt (xCons (xBin lGt (xCall 2 (cw .l_next) (xCons (xVar 1) (xCons (xC (.int 3)) xNil))) (xC (.int 0))) xNil))) (gNm 3)) (sSeq (sAsg (xCall 3 (cw .l_fresh) (xCons (xVar 2) (xCons (xVar 3) (xCons (xVar 4) xNil)))) (gNm 5)) (sSeq (sAsg (xLst false xNil) (gNm 6)) (sSeq (sAsg (xC (.int 0)) (gNm 7)) (sSeq (sFor (iRng (xCall 2 (cw .l_next) (xCons (xVar 1) (xCons (xC (.int 101)) xNil)))) (gNm 8) (sSeq (sDrop (xMt "list" lAppend (xVar 6) (xCons (xCall 2 (cw .l_asks) (xCons (xVar 1) (xCons (xVar 5) xNil))) xNil))) (sSeq (sAsg (xCall 2 (cw .l_do) (xCons (xVar 5) (xCons (xBin lIx (xVar 6) (xNeg (xC (.int 1)))) xNil))) (gNm 9)) (sAsg (xBin lAdd (xVar 7) (xCB lInt (xCons (xAnd (xBin (lEq false) (xBin lIx (xBin lIx (xVar 6) (xNeg (xC (.int 1)))) (xC (.int 0))) (xC (.str "ask"))) (xCB lIsi (xCons (xVar 9) (xCons (xC (.ty "tuple")) xNil)))) xNil))) (gNm 7))))) (sSeq (sAsg (xLc true (iLst (xLst true (xCons (xC (.str "all")) (xCons (xC (.str "deed")) (xCons (xC (.str "below")) (xCons (xC (.str "just")) xNil)))))) (gNm 11) xYes (xBin lIx (xCall 4 (cw .played) (xCons (xVar 2) (xCons (xVar 3) (xCons (xVar 11) (xCons (xVar 6) xNil))))) (xC (.int 1))) [11]) (gNm 10)) (sSeq (sIf (xTest (xBin (lEq true) (xLc true (iLst (xVar 10)) (gNm 12) (xOrT (xNotT (xTest (xCB (lIsC G.cN) (xCons (xVar 12) (xCons (xC (.ref G.cN)) xNil))))) (xTest (xBin (lEq true) (xCB lSum (xCons (xSl true (xMeth G.cN "counts" 0 (cw .Near_counts) (xVar 12) xNil) xNoPart (xPart (xC (.int 2)))) xNil)) (xVar 7)))) (xVar 12) [12]) (xLst true xNil))) (sRet (xC (.bl false))) sNext) (sSeq (sIf (xTest (xBin lEqN (xLc true (iLst (xVar 10)) (gNm 12) (xTest (xBin lGt (xBin lIx (xMeth G.cN "counts" 0 (cw .Near_counts) (xVar 12) xNil) (xC (.int 3))) (xC (.int 0)))) (xVar 12) [12]) (xLst true xNil))) (sSeq (sAsg (xLc true (iLst (xVar 10)) (gNm 12) xYes (xBin lIx (xMeth G.cN "counts" 0 (cw .Near_counts) (xVar 12) xNil) (xC (.int 0))) [12]) (gNm 13)) (sSeq (sIf (xTest (xBin (lEq true) (xVar 13) (xCB (lSortI true) (xCons (xVar 13) xNil)))) (sRet (xC (.bl false))) sNext) (sFor (iRng (xCB lLen (xCons (xVar 2) xNil))) (gNm 14) (sSeq (sAsg (xLc true (iLst (xVar 10)) (gNm 12) xYes (xLc true (iLst (xMeth G.cN "entries" 1 (cw .Near_entries) (xVar 12) (xCons (xVar 14) xNil))) (gNm 16) xYes (xBin lIx (xVar 16) (xC (.int 0))) [16]) [12]) (gNm 15)) (sFor (iRng (xC (.int 3))) (gNm 17) (sIf (xTest (xBin (lEq true) (xLc true (iLst (xBin lIx (xVar 15) (xVar 17))) (gNm 18) (xTest (xBin (lIn true) (xVar 18) (xBin lIx (xVar 15) (xBin lAdd (xVar 17) (xC (.int 1)))))) (xVar 18) [18]) (xLst true xNil))) (sRet (xC (.bl false))) sNext)))))) sNext) (sRet (xC (.bl true)))))))))))))
def B_watched_in (G : GA) (cw : CW) : LTS := (sSeq (sAsg (xMeth G.cW "found_by" 2 (cw .World_found_by) (xVar 0) (xCons (xVar 1) (xCons (xVar 2) xNil))) (gNm 3)) (sSeq (sAsg (xLst true xNil) (gNm 4)) (sSeq (sFor (iLst (xMeth G.cW "above" 1 (cw .World_above) (xVar 0) (xCons (xVar 1) xNil))) (gNm 5) (sSeq (sIf (xAndT (xTest (xBin (lIs true) (xVar 3) (xC .non))) (xTest (xBin (lEq false) (xVar 5) (xBin lIx (xVar 3) (xC (.int 0)))))) (sRet (xCB (lSortIS false) (xCons (xBin (lCat true) (xVar 4) (xLst true (xCons (xTup (xCons (xVar 5) (xCons (xC (.str "drop")) xNil))) (xCons (xTup (xCons (xVar 5) (xCons (xC (.str "put")) xNil))) xNil)))) xNil))) sNext) (sAsg (xBin (lCat true) (xVar 4) (xLst true (xCons (xTup (xCons (xVar 5) (xCons (xC (.str "put")) xNil))) (xCons (xTup (xCons (xVar 5) (xCons (xC (.str "turn")) xNil))) xNil)))) (gNm 4)))) (sRet (xCB (lSortIS false) (xCons (xVar 4) xNil))))))
def B_Near_watched (G : GA) (cw : CW) : LTS := (sSeq (sDrop (xMeth G.cW "need_kind" 1 (cw .World_need_kind) (xFld G.cN "world" (xVar 0)) (xCons (xVar 1) xNil))) (sSeq (sDrop (xCall 1 (cw .need_deed) (xCons (xVar 2) xNil))) (sRet (xCall 3 (cw .watched_in) (xCons (xFld G.cN "world" (xVar 0)) (xCons (xVar 1) (xCons (xVar 2) xNil)))))))
def B_l_watched (G : GA) (cw : CW) : LTS := (sSeq (sAsg (xLst false xNil) (gNm 3)) (sSeq (sFor (iLst (xCall 2 (cw .l_up) (xCons (xVar 0) (xCons (xVar 1) xNil)))) (gNm 4) (sSeq (sIf (xTest (xBin (lIn false) (xVar 2) (xBin lIx (xBin lIx (xVar 0) (xC (.str "own"))) (xVar 4)))) (sRet (xCB (lSortIS true) (xCons (xBin (lCat true) (xVar 3) (xLst true (xCons (xTup (xCons (xVar 4) (xCons (xC (.str "drop")) xNil))) (xCons (xTup (xCons (xVar 4) (xCons (xC (.str "put")) xNil))) xNil)))) xNil))) sNext) (sDrop (xMt "list" lExtend (xVar 3) (xCons (xLst true (xCons (xTup (xCons (xVar 4) (xCons (xC (.str "put")) xNil))) (xCons (xTup (xCons (xVar 4) (xCons (xC (.str "turn")) xNil))) xNil))) xNil))))) (sRet (xCB (lSortIS true) (xCons (xVar 3) xNil)))))
def B_law_k06 (G : GA) (cw : CW) : LTS := (sSeq (sAsg (xCall 2 (cw .l_mix) (xCons (xVar 0) (xCons (xC (.int 17)) xNil))) (gNm 1)) (sSeq (sFor (iRng (xC (.int 3))) (gNm 2) (sSeq (sAsg (xMake G.cN 3 (cw .Near_init) (xCons (xC (.str "a")) (xCons (xC (.int 1)) (xCons (xC (.str "just")) xNil)))) (gNm 3)) (sSeq (sAsg (xCall 0 (cw .l_world) xNil) (gNm 4)) (sSeq (sFor (iRng (xCall 2 (cw .l_next) (xCons (xVar 1) (xCons (xC (.int 51)) xNil)))) (gNm 5) (sSeq (sAsg (xCall 2 (cw .l_step) (xCons (xVar 1) (xCons (xVar 4) xNil))) (gNm 6)) (sIf (xTest (xBin (lEq false) (xCall 2 (cw .l_word) (xCons (xVar 4) (xCons (xVar 6) xNil))) (xC (.str "")))) (sSeq (sDrop (xCall 2 (cw .l_change) (xCons (xVar 4) (xCons (xVar 6) xNil)))) (sDrop (xCall 2 (cw .l_does_k02) (xCons (xVar 3) (xCons (xVar 6) xNil))))) sNext))) (sSeq (sAsg (xCB lLen (xCons (xBin lIx (xVar 4) (xC (.str "elders"))) xNil)) (gNm 7)) (sSeq (sFor (iRng (xVar 7)) (gNm 8) (sFor (iStr (xC (.str "abcdef"))) (gNm 9) (sFor (iRng (xC (.int 2))) (gNm 10) (sSeq (sAsg (xMeth G.cN "watched" 2 (cw .Near_watched) (xVar 3) (xCons (xVar 8) (xCons (xVar 9) xNil))) (gNm 11)) (sSeq (sIf (xNotT (xTest (xCall 2 (cw .l_alike) (xCons (xVar 11) (xCons (xCall 3 (cw .l_watched) (xCons (xVar 4) (xCons (xVar 8) (xCons (xVar 9) xNil)))) xNil))))) (sRet (xC (.bl false))) sNext) (sDrop (xMt "list" lAppend (xVar 11) (xCons (xTup (xCons (xC (.int 0)) (xCons (xC (.str "put")) xNil))) xNil)))))))) (sSeq (sAsg (xBin lIx (xLst true (xCons (xVar 7) (xCons (xNeg (xC (.int 1))) (xCons (xBin lAdd (xVar 7) (xCall 2 (cw .l_next) (xCons (xVar 1) (xCons (xBin lPow (xC (.int 10)) (xC (.int 6))) xNil)))) xNil)))) (xCall 2 (cw .l_next) (xCons (xVar 1) (xCons (xC (.int 3)) xNil)))) (gNm 12)) (sSeq (sIf (xTest (xBin (lEq true) (xLam (tblG G) (xMeth G.cN "watched" 2 (cw .Near_watched) (xVar 3) (xCons (xVar 12) (xCons (xC (.str "z")) xNil)))) (xC (.str "NoKind")))) (sRet (xC (.bl false))) sNext) (sSeq (sAsg (xBin lIx (xLst true (xCons (xC (.str "g")) (xCons (xC (.str "")) (xCons (xC (.str "A")) (xCons (xC (.str "ab")) xNil))))) (xCall 2 (cw .l_next) (xCons (xVar 1) (xCons (xC (.int 4)) xNil)))) (gNm 13)) (sIf (xAndT (xTest (xBin lGt (xVar 7) (xC (.int 0)))) (xTest (xBin (lEq true) (xLam (tblG G) (xMeth G.cN "watched" 2 (cw .Near_watched) (xVar 3) (xCons (xC (.int 0)) (xCons (xVar 13) xNil)))) (xC (.str "NoDeed"))))) (sRet (xC (.bl false))) sNext)))))))))) (sRet (xC (.bl true)))))
def B_l_does_k07 (G : GA) (cw : CW) : LTS := (sTryN (tblG G) (sSeq (sIf (xTest (xBin (lEq false) (xBin lIx (xVar 1) (xC (.int 0))) (xC (.str "add")))) (sRet (xOrE (xMeth G.cW "add" 1 (cw .World_add) (xVar 0) (xCons (xBin lIx (xVar 1) (xC (.int 1))) xNil)) (xMeth G.cN "add" 1 (cw .Near_add) (xVar 0) (xCons (xBin lIx (xVar 1) (xC (.int 1))) xNil)))) sNext) (sSeq (sIf (xTest (xBin (lEq false) (xBin lIx (xVar 1) (xC (.int 0))) (xC (.str "put")))) (sRet (xOrE (xMeth G.cW "put" 3 (cw .World_put) (xVar 0) (xCons (xBin lIx (xVar 1) (xC (.int 1))) (xCons (xBin lIx (xVar 1) (xC (.int 2))) (xCons (xBin lIx (xVar 1) (xC (.int 3))) xNil)))) (xMeth G.cN "put" 3 (cw .Near_put) (xVar 0) (xCons (xBin lIx (xVar 1) (xC (.int 1))) (xCons (xBin lIx (xVar 1) (xC (.int 2))) (xCons (xBin lIx (xVar 1) (xC (.int 3))) xNil)))))) sNext) (sSeq (sIf (xTest (xBin (lEq false) (xBin lIx (xVar 1) (xC (.int 0))) (xC (.str "drop")))) (sRet (xOrE (xMeth G.cW "drop" 2 (cw .World_drop) (xVar 0) (xCons (xBin lIx (xVar 1) (xC (.int 1))) (xCons (xBin lIx (xVar 1) (xC (.int 2))) xNil))) (xMeth G.cN "drop" 2 (cw .Near_drop) (xVar 0) (xCons (xBin lIx (xVar 1) (xC (.int 1))) (xCons (xBin lIx (xVar 1) (xC (.int 2))) xNil))))) sNext) (sRet (xIf (xTest (xBin (lEq false) (xBin lIx (xVar 1) (xC (.int 0))) (xC (.str "turn")))) (xOrE (xMeth G.cW "turn" 2 (cw .World_turn) (xVar 0) (xCons (xBin lIx (xVar 1) (xC (.int 1))) (xCons (xBin lIx (xVar 1) (xC (.int 2))) xNil))) (xMeth G.cN "turn" 2 (cw .Near_turn) (xVar 0) (xCons (xBin lIx (xVar 1) (xC (.int 1))) (xCons (xBin lIx (xVar 1) (xC (.int 2))) xNil)))) (xMeth G.cN "ask" 2 (cw .Near_ask) (xVar 0) (xCons (xBin lIx (xVar 1) (xC (.int 1))) (xCons (xBin lIx (xVar 1) (xC (.int 2))) xNil)))))))))
def B_l_again (G : GA) (cw : CW) : LTS := (sSeq (sAsg (xMake G.cW 0 (cw .World_init) xNil) (gNm 1)) (sSeq (sFor (iLst (xVar 0)) (gNm 2) (sDrop (xCall 2 (cw .l_does_k07) (xCons (xVar 1) (xCons (xVar 2) xNil))))) (sRet (xVar 1))))
def B_l_all (G : GA) (cw : CW) : LTS := (sSeq (sAsg (xLst false xNil) (gNm 2)) (sSeq (sAsg (xCB lLen (xCons (xBin lIx (xVar 0) (xC (.str "elders"))) xNil)) (gNm 3)) (sSeq (sAsg (xBin lIx (xC (.str "ab")) (xCB lInt (xCons (xBin (lEq false) (xVar 1) (xC (.str "a"))) xNil))) (gNm 4)) (sSeq (sFor (iRng (xVar 3)) (gNm 5) (sSeq (sAsg (xBin (lCat false) (xVar 2) (xLst true (xCons (xTup (xCons (xC (.str "put")) (xCons (xVar 5) (xCons (xVar 1) (xCons (xC (.int 50)) xNil))))) (xCons (xTup (xCons (xC (.str "put")) (xCons (xVar 5) (xCons (xVar 1) (xCons (xC (.int 51)) xNil))))) (xCons (xTup (xCons (xC (.str "put")) (xCons (xVar 5) (xCons (xVar 4) (xCons (xC (.int 50)) xNil))))) xNil))))) (gNm 2)) (sSeq (sAsg (xBin (lCat false) (xVar 2) (xLst true (xCons (xTup (xCons (xC (.str "drop")) (xCons (xVar 5) (xCons (xVar 1) xNil)))) (xCons (xTup (xCons (xC (.str "drop")) (xCons (xVar 5) (xCons (xVar 4) xNil)))) (xCons (xTup (xCons (xC (.str "turn")) (xCons (xVar 5) (xCons (xC .non) xNil)))) xNil))))) (gNm 2)) (sDrop (xMt "list" lExtend (xVar 2) (xCons (xLc true (iRng (xVar 3)) (gNm 6) xYes (xTup (xCons (xC (.str "turn")) (xCons (xVar 5) (xCons (xVar 6) xNil)))) [6]) xNil)))))) (sRet (xLc true (iLst (xVar 2)) (gNm 7) (xTest (xBin (lEq false) (xCall 2 (cw .l_word) (xCons (xVar 0) (xCons (xVar 7) xNil))) (xC (.str "")))) (xVar 7) [7]))))))
def B_law_k07 (G : GA) (cw : CW) : LTS := (sSeq (sAsg (xCall 2 (cw .l_mix) (xCons (xVar 0) (xCons (xC (.int 19)) xNil))) (gNm 1)) (sSeq (sFor (iRng (xC (.int 2))) (gNm 2) (sSeq (sAsg (xMake G.cN 3 (cw .Near_init) (xCons (xC (.str "a")) (xCons (xC (.int 1)) (xCons (xC (.str "all")) xNil)))) (gNm 3)) (sSeq (sAsg (xCall 0 (cw .l_world) xNil) (gNm 4)) (sSeq (sAsg (xLst false xNil) (gNm 5)) (sSeq (sFor (iRng (xBin lAdd (xC (.int 2)) (xCall 2 (cw .l_next) (xCons (xVar 1) (xCons (xC (.int 24)) xNil))))) (gNm 6) (sSeq (sAsg (xCall 2 (cw .l_step) (xCons (xVar 1) (xCons (xVar 4) xNil))) (gNm 7)) (sIf (xAndT (xTest (xBin (lEq false) (xCall 2 (cw .l_word) (xCons (xVar 4) (xCons (xVar 7) xNil))) (xC (.str "")))) (xOrT (xTest (xBin (lEq true) (xBin lIx (xVar 7) (xC (.int 0))) (xC (.str "add")))) (xTest (xBin lLt (xCB lLen (xCons (xBin lIx (xVar 4) (xC (.str "elders"))) xNil)) (xC (.int 7)))))) (sSeq (sDrop (xMt "list" lAppend (xVar 5) (xCons (xVar 7) xNil))) (sSeq (sDrop (xCall 2 (cw .l_change) (xCons (xVar 4) (xCons (xVar 7) xNil)))) (sDrop (xCall 2 (cw .l_does_k07) (xCons (xVar 3) (xCons (xVar 7) xNil)))))) sNext))) (sSeq (sAsg (xCall 2 (cw .l_next) (xCons (xVar 1) (xCons (xCB lLen (xCons (xBin lIx (xVar 4) (xC (.str "elders"))) xNil)) xNil))) (gNm 8)) (sSeq (sAsg (xBin lIx (xC (.str "abcdef")) (xCall 2 (cw .l_next) (xCons (xVar 1) (xCons (xBin lIx (xLst true (xCons (xC (.int 2)) (xCons (xC (.int 6)) xNil))) (xCall 2 (cw .l_next) (xCons (xVar 1) (xCons (xC (.int 2)) xNil)))) xNil)))) (gNm 9)) (sSeq (sAsg (xMeth G.cW "find" 2 (cw .World_find) (xCall 1 (cw .l_again) (xCons (xVar 5) xNil)) (xCons (xVar 8) (xCons (xVar 9) xNil))) (gNm 10)) (sSeq (sAsg (xMeth G.cN "watched" 2 (cw .Near_watched) (xVar 3) (xCons (xVar 8) (xCons (xVar 9) xNil))) (gNm 11)) (sFor (iLst (xCall 2 (cw .l_all) (xCons (xVar 4) (xCons (xVar 9) xNil)))) (gNm 7) (sSeq (sAsg (xBin (lEq true) (xMeth G.cW "find" 2 (cw .World_find) (xCall 1 (cw .l_again) (xCons (xBin (lCat true) (xVar 5) (xLst true (xCons (xVar 7) xNil))) xNil)) (xCons (xVar 8) (xCons (xVar 9) xNil))) (xVar 10)) (gNm 12)) (sSeq (sAsg (xAnd (xBin (lIn false) (xTup (xCons (xBin lIx (xVar 7) (xC (.int 1))) (xCons (xBin lIx (xVar 7) (xC (.int 0))) xNil))) (xVar 11)) (xOr (xBin (lEq false) (xBin lIx (xVar 7) (xC (.int 0))) (xC (.str "turn"))) (xBin (lEq false) (xBin lIx (xVar 7) (xC (.int 2))) (xVar 9)))) (gNm 13)) (sSeq (sIf (xAndT (xTest (xVar 12)) (xNotT (xTest (xVar 13)))) (sRet (xC (.bl false))) sNext) (sSeq (sAsg (xAnd (xBin (lEq false) (xBin lIx (xVar 7) (xC (.int 0))) (xC (.str "put"))) (xBin (lEq false) (xVar 10) (xTup (xCons (xBin lIx (xVar 7) (xC (.int 1))) (xCons (xBin lIx (xVar 7) (xC (.int 3))) xNil))))) (gNm 14)) (sIf (xAndT (xTest (xVar 13)) (xAndT (xTest (xBin (lEq true) (xBin lIx (xVar 7) (xC (.int 0))) (xC (.str "turn")))) (xAndT (xNotT (xTest (xVar 14))) (xNotT (xTest (xVar 12)))))) (sRet (xC (.bl false))) sNext))))))))))))))) (sRet (xC (.bl true)))))
def B_held (G : GA) (cw : CW) : LTS := (sSeq (sDrop (xCall 2 (cw .need_spots) (xCons (xVar 0) (xCons (xVar 1) xNil)))) (sSeq (sAsg (xLst false xNil) (gNm 3)) (sSeq (sFor (iTup (xC (.wt ((["all", "deed", "below", "just"] : List Str).map LV.str)))) (gNm 4) (sSeq (sAsg (xBin lIx (xCall 4 (cw .played) (xCons (xVar 0) (xCons (xVar 1) (xCons (xVar 4) (xCons (xVar 2) xNil))))) (xC (.int 1))) (gNm 5)) (sDrop (xMt "list" lAppend (xVar 3) (xCons (xTup (xCons (xVar 4) (xCons (xFld G.cN "hits" (xVar 5)) (xCons (xFld G.cN "forgotten" (xVar 5)) (xCons (xFld G.cN "needless" (xVar 5)) xNil))))) xNil))))) (sRet (xVar 3)))))
def B_l_all_k08 (G : GA) (cw : CW) : LTS := (sSeq (sAsg (xCall 3 (cw .l_fresh) (xCons (xVar 0) (xCons (xVar 1) (xCons (xVar 2) xNil)))) (gNm 4)) (sRet (xTup (xCons (xLc true (iLst (xVar 3)) (gNm 5) xYes (xCall 2 (cw .l_do) (xCons (xVar 4) (xCons (xVar 5) xNil))) [5]) (xCons (xVar 4) xNil)))))
def B_law_k08 (G : GA) (cw : CW) : LTS := (sSeq (sAsg (xCall 2 (cw .l_mix) (xCons (xVar 0) (xCons (xC (.int 23)) xNil))) (gNm 1)) (sSeq (sAsg (xCall 1 (cw .l_near) (xCons (xVar 1) xNil)) (gTp [2, 3, 4])) (sSeq (sAsg (xCall 3 (cw .l_fresh) (xCons (xVar 2) (xCons (xVar 3) (xCons (xVar 4) xNil)))) (gNm 5)) (sSeq (sAsg (xLst false xNil) (gNm 6)) (sSeq (sFor (iRng (xCall 2 (cw .l_next) (xCons (xVar 1) (xCons (xBin lIx (xLst true (xCons (xC (.int 61)) (xCons (xC (.int 61)) (xCons (xC (.int 61)) (xCons (xC (.int 401)) xNil))))) (xCall 2 (cw .l_next) (xCons (xVar 1) (xCons (xC (.int 4)) xNil)))) xNil)))) (gNm 7) (sSeq (sDrop (xMt "list" lAppend (xVar 6) (xCons (xCall 2 (cw .l_asks) (xCons (xVar 1) (xCons (xVar 5) xNil))) xNil))) (sDrop (xCall 2 (cw .l_do) (xCons (xVar 5) (xCons (xBin lIx (xVar 6) (xNeg (xC (.int 1)))) xNil)))))) (sSeq (sAsg (xCB (lList true) (xCons (xVar 6) xNil)) (gNm 8)) (sSeq (sAsg (xLst false xNil) (gNm 9)) (sSeq (sFor (iLst (xLst true (xCons (xC (.str "all")) (xCons (xC (.str "deed")) (xCons (xC (.str "below")) (xCons (xC (.str "just")) xNil)))))) (gNm 10) (sSeq (sAsg (xCall 4 (cw .l_all_k08) (xCons (xVar 2) (xCons (xVar 3) (xCons (xVar 10) (xCons (xVar 6) xNil))))) (gTp [11, 12])) (sSeq (sDrop (xMt "list" lAppend (xVar 9) (xCons (xTup (xCons (xVar 10) (xCons (xBin lIx (xBin lIx (xVar 12) (xC (.str "counts"))) (xC (.int 0))) (xCons (xBin lIx (xBin lIx (xVar 12) (xC (.str "counts"))) (xC (.int 2))) (xCons (xBin lIx (xVar 12) (xC (.str "needless"))) xNil))))) xNil))) (sFor (iRng (xC (.int 2))) (gNm 13) (sSeq (sAsg (xCall 4 (cw .played) (xCons (xVar 2) (xCons (xVar 3) (xCons (xVar 10) (xCons (xVar 8) xNil))))) (gTp [14, 15])) (sSeq (sIf (xOrT (xNotT (xTest (xCall 2 (cw .l_alike) (xCons (xVar 14) (xCons (xVar 11) xNil))))) (xOrT (xNotT (xTest (xCall 2 (cw .l_is) (xCons (xVar 15) (xCons (xVar 12) xNil))))) (xTest (xBin (lEq true) (xVar 8) (xVar 6))))) (sRet (xC (.bl false))) sNext) (sSeq (sDrop (xIf (xTest (xBin lLt (xCB lLen (xCons (xBin lIx (xBin lIx (xVar 12) (xC (.str "world"))) (xC (.str "elders"))) xNil)) (xC (.int 12)))) (xMeth G.cN "add" 1 (cw .Near_add) (xVar 15) (xCons (xC .non) xNil)) (xMeth G.cN "counts" 0 (cw .Near_counts) (xVar 15) xNil))) (sDrop (xMt "list" lAppend (xVar 14) (xCons (xC (.int 0)) xNil)))))))))) (sSeq (sFor (iRng (xC (.int 2))) (gNm 13) (sSeq (sAsg (xCall 3 (cw .held) (xCons (xVar 2) (xCons (xVar 3) (xCons (xVar 8) xNil)))) (gNm 14)) (sSeq (sIf (xOrT (xNotT (xTest (xCall 2 (cw .l_alike) (xCons (xVar 14) (xCons (xVar 9) xNil))))) (xTest (xBin (lEq true) (xVar 8) (xVar 6)))) (sRet (xC (.bl false))) sNext) (sDrop (xMt "list" lAppend (xVar 14) (xCons (xTup xNil) xNil)))))) (sRet (xC (.bl true))))))))))))
def B_written (G : GA) (cw : CW) : LTS := (sSeq (sAsg (xLst false xNil) (gNm 1)) (sSeq (sFor (iLst (xVar 0)) (gNm 2) (sDrop (xMt "list" lAppend (xVar 1) (xCons (xMt "str" lJoin (xC (.str " ")) (xCons (xLc true (iLst (xVar 2)) (gNm 3) xYes (xIf (xTest (xBin (lIs false) (xVar 3) (xC .non))) (xC (.str "-")) (xCB lStr (xCons (xVar 3) xNil))) [3]) xNil)) xNil)))) (sRet (xMt "str" lJoin (xC (.str "\n")) (xCons (xVar 1) xNil)))))
def B_number_of (G : GA) (cw : CW) : LTS := (sSeq (sIf (xOrT (xNotT (xTest (xChain lLe lLe (xC (.int 1)) (xCB lLen (xCons (xVar 0) xNil)) (xC (.int 3))))) (xTest (xBin (lEq true) (xLc true (iStr (xVar 0)) (gNm 1) (xTest (xBin (lIn true) (xVar 1) (xC (.str "0123456789")))) (xVar 1) [1]) (xLst true xNil)))) (sRet (xC .non)) sNext) (sRet (xIf (xAndT (xTest (xBin (lEq false) (xBin lIx (xVar 0) (xC (.int 0))) (xC (.str "0")))) (xTest (xBin (lEq true) (xVar 0) (xC (.str "0"))))) (xC .non) (xCB lInt (xCons (xVar 0) xNil)))))
def B_is_so (G : GA) (cw : CW) : LTS := (sSeq (sIf (xTest (xBin (lEq false) (xVar 1) (xC (.str "l")))) (sRet (xAnd (xBin (lEq false) (xCB lLen (xCons (xVar 0) xNil)) (xC (.int 1))) (xBin (lIn false) (xVar 0) (xC (.str "abcdef"))))) sNext) (sRet (xOr (xBin (lIs true) (xCall 1 (cw .number_of) (xCons (xVar 0) xNil)) (xC .non)) (xAnd (xBin (lEq false) (xVar 1) (xC (.str "e"))) (xBin (lEq false) (xVar 0) (xC (.str "-")))))))
def B_part_of (G : GA) (cw : CW) : LTS := (sRet (xIf (xTest (xBin (lEq false) (xVar 1) (xC (.str "l")))) (xVar 0) (xCall 1 (cw .number_of) (xCons (xVar 0) xNil))))
def B_l_text (G : GA) (cw : CW) : LTS := (sRet (xMt "str" lJoin (xC (.str "\n")) (xCons (xLc true (iLst (xVar 0)) (gNm 2) xYes (xMt "str" lJoin (xC (.str " ")) (xCons (xLc true (iLst (xVar 2)) (gNm 1) xYes (xIf (xTest (xBin (lIs false) (xVar 1) (xC .non))) (xC (.str "-")) (xCB lStr (xCons (xVar 1) xNil))) [1]) xNil)) [2]) xNil)))
def B_l_steps (G : GA) (cw : CW) : LTS := (sSeq (sAsg (xLst false xNil) (gNm 2)) (sSeq (sFor (iRng (xCall 2 (cw .l_next) (xCons (xVar 0) (xCons (xBin lAdd (xVar 1) (xC (.int 1))) xNil)))) (gNm 3) (sSeq (sAsg (xLc true (iRng (xC (.int 3))) (gNm 5) xYes (xBin lIx (xLst true (xCons (xCall 2 (cw .l_next) (xCons (xVar 0) (xCons (xC (.int 12)) xNil))) (xCons (xCall 2 (cw .l_next) (xCons (xVar 0) (xCons (xC (.int 1000)) xNil))) xNil))) (xCall 2 (cw .l_next) (xCons (xVar 0) (xCons (xC (.int 2)) xNil)))) [5]) (gNm 4)) (sSeq (sAsg (xBin lIx (xLst true (xCons (xC .non) (xCons (xBin lIx (xVar 4) (xC (.int 1))) xNil))) (xCall 2 (cw .l_next) (xCons (xVar 0) (xCons (xC (.int 2)) xNil)))) (gNm 6)) (sSeq (sAsg (xBin lIx (xC (.str "abcdef")) (xCall 2 (cw .l_next) (xCons (xVar 0) (xCons (xC (.int 6)) xNil)))) (gNm 7)) (sSeq (sAsg (xLst true (xCons (xTup (xCons (xC (.str "add")) (xCons (xVar 6) xNil))) (xCons (xTup (xCons (xC (.str "put")) (xCons (xBin lIx (xVar 4) (xC (.int 0))) (xCons (xVar 7) (xCons (xBin lIx (xVar 4) (xC (.int 2))) xNil))))) (xCons (xTup (xCons (xC (.str "drop")) (xCons (xBin lIx (xVar 4) (xC (.int 0))) (xCons (xVar 7) xNil)))) (xCons (xTup (xCons (xC (.str "turn")) (xCons (xBin lIx (xVar 4) (xC (.int 0))) (xCons (xVar 6) xNil)))) xNil))))) (gNm 8)) (sDrop (xMt "list" lAppend (xVar 2) (xCons (xBin lIx (xBin (lCat true) (xVar 8) (xLst true (xCons (xTup (xCons (xC (.str "ask")) (xCons (xBin lIx (xVar 4) (xC (.int 0))) (xCons (xBin lIx (xVar 4) (xC (.int 1))) xNil)))) xNil))) (xCall 2 (cw .l_next) (xCons (xVar 0) (xCons (xC (.int 5)) xNil)))) xNil)))))))) (sRet (xVar 2))))
def B_law_k09 (G : GA) (cw : CW) : LTS := (sSeq (sAsg (xCall 2 (cw .l_mix) (xCons (xVar 0) (xCons (xC (.int 29)) xNil))) (gNm 1)) (sSeq (sFor (iRng (xC (.int 4))) (gNm 2) (sSeq (sAsg (xCall 2 (cw .l_steps) (xCons (xVar 1) (xCons (xC (.int 30)) xNil))) (gNm 3)) (sSeq (sAsg (xCall 1 (cw .l_text) (xCons (xVar 3) xNil)) (gNm 4)) (sSeq (sAsg (xCB (lList true) (xCons (xVar 3) xNil)) (gNm 5)) (sSeq (sIf (xOrT (xNotT (xTest (xCall 2 (cw .l_alike) (xCons (xCall 1 (cw .written) (xCons (xVar 5) xNil)) (xCons (xVar 4) xNil))))) (xTest (xBin (lEq true) (xVar 5) (xVar 3)))) (sRet (xC (.bl false))) sNext) (sSeq (sAsg (xCall 1 (cw .read) (xCons (xVar 4) xNil)) (gNm 6)) (sSeq (sIf (xOrT (xNotT (xTest (xCall 2 (cw .l_alike) (xCons (xVar 6) (xCons (xVar 3) xNil))))) (xTest (xBin (lEq true) (xCall 1 (cw .written) (xCons (xVar 6) xNil)) (xVar 4)))) (sRet (xC (.bl false))) sNext) (sSeq (sIf (xTest (xBin (lEq true) (xBin lIx (xCall 4 (cw .played) (xCons (xC (.str "ab")) (xCons (xC (.int 2)) (xCons (xC (.str "below")) (xCons (xVar 6) xNil))))) (xC (.int 0))) (xBin lIx (xCall 4 (cw .played) (xCons (xC (.str "ab")) (xCons (xC (.int 2)) (xCons (xC (.str "below")) (xCons (xVar 3) xNil))))) (xC (.int 0))))) (sRet (xC (.bl false))) sNext) (sSeq (sDrop (xMt "list" lAppend (xVar 6) (xCons (xTup xNil) xNil))) (sIf (xNotT (xTest (xCall 2 (cw .l_alike) (xCons (xCall 1 (cw .read) (xCons (xVar 4) xNil)) (xCons (xVar 3) xNil))))) (sRet (xC (.bl false))) sNext)))))))))) (sRet (xC (.bl true)))))
def B_l_part (G : GA) (cw : CW) : LTS := (sSeq (sIf (xTest (xBin (lEq false) (xVar 1) (xC (.str "letter")))) (sRet (xTup (xCons (xBin (lIn false) (xVar 0) (xTup (xCons (xC (.str "a")) (xCons (xC (.str "b")) (xCons (xC (.str "c")) (xCons (xC (.str "d")) (xCons (xC (.str "e")) (xCons (xC (.str "f")) xNil)))))))) (xCons (xVar 0) xNil)))) sNext) (sSeq (sIf (xAndT (xTest (xBin (lEq false) (xVar 1) (xC (.str "elder")))) (xTest (xBin (lEq false) (xVar 0) (xC (.str "-"))))) (sRet (xTup (xCons (xC (.bl true)) (xCons (xC .non) xNil)))) sNext) (sSeq (sAsg (xAnd (xChain lLe lLe (xC (.int 1)) (xCB lLen (xCons (xVar 0) xNil)) (xC (.int 3))) (xBin (lEq false) (xLc true (iStr (xVar 0)) (gNm 3) (xTest (xBin (lIn true) (xVar 3) (xC (.str "0123456789")))) (xVar 3) [3]) (xLst true xNil))) (gNm 2)) (sSeq (sAsg (xAnd (xVar 2) (xOr (xBin (lEq false) (xVar 0) (xC (.str "0"))) (xBin (lEq true) (xBin lIx (xVar 0) (xC (.int 0))) (xC (.str "0"))))) (gNm 2)) (sRet (xTup (xCons (xVar 2) (xCons (xIf (xTest (xVar 2)) (xCB lInt (xCons (xVar 0) xNil)) (xC (.int 0))) xNil))))))))
def B_l_due (G : GA) (cw : CW) : LTS := (sSeq (sAsg (xDisp [((xC (.str "add")), (xLst true (xCons (xC (.str "elder")) xNil))), ((xC (.str "put")), (xLst true (xCons (xC (.str "number")) (xCons (xC (.str "letter")) (xCons (xC (.str "number")) xNil))))), ((xC (.str "drop")), (xLst true (xCons (xC (.str "number")) (xCons (xC (.str "letter")) xNil))))]) (gNm 1)) (sSeq (sDrop (xMt "dict" lUpd (xVar 1) (xCons (xDisp [((xC (.str "turn")), (xLst true (xCons (xC (.str "number")) (xCons (xC (.str "elder")) xNil)))), ((xC (.str "ask")), (xLst true (xCons (xC (.str "number")) (xCons (xC (.str "number")) xNil))))]) xNil))) (sSeq (sAsg (xIf (xTest (xBin (lEq true) (xVar 0) (xC (.str "")))) (xMt "str" (lSplit true) (xVar 0) (xCons (xC (.str "\n")) xNil)) (xLst true xNil)) (gNm 2)) (sSeq (sAsg (xLst false xNil) (gNm 3)) (sSeq (sFor (iRng (xCB lLen (xCons (xVar 2) xNil))) (gNm 4) (sSeq (sAsg (xMt "str" (lSplit true) (xBin lIx (xVar 2) (xVar 4)) (xCons (xC (.str " ")) xNil)) (gNm 5)) (sSeq (sIf (xOrT (xTest (xBin (lIn true) (xBin lIx (xVar 5) (xC (.int 0))) (xVar 1))) (xTest (xBin (lEq true) (xCB lLen (xCons (xVar 5) xNil)) (xBin lAdd (xCB lLen (xCons (xBin lIx (xVar 1) (xBin lIx (xVar 5) (xC (.int 0)))) xNil)) (xC (.int 1)))))) (sRet (xVar 4)) sNext) (sSeq (sAsg (xLc true (iRng (xBin lSub (xCB lLen (xCons (xVar 5) xNil)) (xC (.int 1)))) (gNm 7) xYes (xCall 2 (cw .l_part) (xCons (xBin lIx (xVar 5) (xBin lAdd (xVar 7) (xC (.int 1)))) (xCons (xBin lIx (xBin lIx (xVar 1) (xBin lIx (xVar 5) (xC (.int 0)))) (xVar 7)) xNil))) [7]) (gNm 6)) (sSeq (sIf (xTest (xBin (lEq true) (xLc true (iLst (xVar 6)) (gNm 8) (xNotT (xTest (xBin lIx (xVar 8) (xC (.int 0))))) (xVar 8) [8]) (xLst true xNil))) (sRet (xVar 4)) sNext) (sDrop (xMt "list" lAppend (xVar 3) (xCons (xCB lTuple (xCons (xBin (lCat true) (xSl true (xVar 5) xNoPart (xPart (xC (.int 1)))) (xLc true (iLst (xVar 6)) (gNm 8) xYes (xBin lIx (xVar 8) (xC (.int 1))) [8])) xNil)) xNil)))))))) (sRet (xVar 3)))))))
def B_l_changed (G : GA) (cw : CW) : LTS := (sSeq (sAsg (xCall 2 (cw .l_next) (xCons (xVar 0) (xCons (xC (.int 9)) xNil))) (gNm 2)) (sSeq (sAsg (xCall 2 (cw .l_next) (xCons (xVar 0) (xCons (xBin lAdd (xCB lLen (xCons (xVar 1) xNil)) (xC (.int 1))) xNil))) (gNm 3)) (sSeq (sAsg (xBin lIx (xC (.str "0123456789abcdef- \nptunrsk")) (xCall 2 (cw .l_next) (xCons (xVar 0) (xCons (xC (.int 26)) xNil)))) (gNm 4)) (sSeq (sIf (xTest (xBin lLt (xVar 2) (xC (.int 3)))) (sRet (xBin lAdd (xBin lAdd (xSl true (xVar 1) xNoPart (xPart (xVar 3))) (xBin lIx (xLst true (xCons (xVar 4) (xCons (xC (.str "")) (xCons (xVar 4) xNil)))) (xVar 2))) (xSl true (xVar 1) (xPart (xBin lAdd (xVar 3) (xCB lInt (xCons (xBin lGt (xVar 2) (xC (.int 0))) xNil)))) xNoPart))) sNext) (sSeq (sAsg (xMt "str" (lSplit true) (xVar 1) (xCons (xC (.str "\n")) xNil)) (gNm 5)) (sSeq (sAsg (xCall 2 (cw .l_next) (xCons (xVar 0) (xCons (xCB lLen (xCons (xVar 5) xNil)) xNil))) (gNm 6)) (sSeq (sIf (xTest (xBin lLt (xVar 2) (xC (.int 6)))) (sSeq (sAsg (xCall 2 (cw .l_next) (xCons (xVar 0) (xCons (xCB lLen (xCons (xVar 5) xNil)) xNil))) (gNm 7)) (sSeq (sAsg (xLst true (xCons (xBin (lCat true) (xSl true (xVar 5) xNoPart (xPart (xVar 6))) (xSl true (xVar 5) (xPart (xBin lAdd (xVar 6) (xC (.int 1)))) xNoPart)) (xCons (xBin (lCat true) (xBin (lCat true) (xSl true (xVar 5) xNoPart (xPart (xVar 6))) (xSl true (xVar 5) (xPart (xVar 6)) (xPart (xBin lAdd (xVar 6) (xC (.int 1)))))) (xSl true (xVar 5) (xPart (xVar 6)) xNoPart)) (xCons (xBin (lCat true) (xSl true (xVar 5) xNoPart (xPart (xVar 7))) (xSl true (xVar 5) (xPart (xVar 6)) xNoPart)) xNil)))) (gNm 8)) (sRet (xMt "str" lJoin (xC (.str "\n")) (xCons (xBin lIx (xVar 8) (xBin lSub (xVar 2) (xC (.int 3)))) xNil))))) sNext) (sSeq (sAsg (xMt "str" (lSplit true) (xBin lIx (xVar 5) (xVar 6)) (xCons (xC (.str " ")) xNil)) (gNm 9)) (sSeq (sAsg (xCall 2 (cw .l_next) (xCons (xVar 0) (xCons (xCB lLen (xCons (xVar 9) xNil)) xNil))) (gNm 10)) (sSeq (sAsg (xLst true (xCons (xC (.str "")) (xCons (xC (.str "-")) (xCons (xC (.str "0")) (xCons (xC (.str "00")) (xCons (xC (.str "07")) (xCons (xC (.str "999")) (xCons (xC (.str "1000")) (xCons (xC (.str "a")) (xCons (xC (.str "g")) (xCons (xC (.str "ab")) (xCons (xC (.str "add")) (xCons (xC (.str "put")) (xCons (xC (.str "drop")) (xCons (xC (.str "turn")) (xCons (xC (.str "ask")) (xCons (xC (.str "Ask")) (xCons (xC (.str "--")) xNil)))))))))))))))))) (gNm 11)) (sSeq (sAsg (xBin (lCat true) (xBin (lCat true) (xSl true (xVar 9) xNoPart (xPart (xVar 10))) (xBin lIx (xLst true (xCons (xLst true xNil) (xCons (xLst true (xCons (xBin lIx (xVar 9) (xVar 10)) (xCons (xBin lIx (xVar 9) (xVar 10)) xNil))) (xCons (xLst true (xCons (xBin lIx (xVar 11) (xCall 2 (cw .l_next) (xCons (xVar 0) (xCons (xC (.int 17)) xNil)))) xNil)) xNil)))) (xBin lSub (xVar 2) (xC (.int 6))))) (xSl true (xVar 9) (xPart (xBin lAdd (xVar 10) (xC (.int 1)))) xNoPart)) (gNm 9)) (sRet (xMt "str" lJoin (xC (.str "\n")) (xCons (xBin (lCat true) (xBin (lCat true) (xSl true (xVar 5) xNoPart (xPart (xVar 6))) (xLst true (xCons (xMt "str" lJoin (xC (.str " ")) (xCons (xVar 9) xNil)) xNil))) (xSl true (xVar 5) (xPart (xBin lAdd (xVar 6) (xC (.int 1)))) xNoPart)) xNil))))))))))))))
def B_law_k10 (G : GA) (cw : CW) : LTS := (sSeq (sAsg (xCall 2 (cw .l_mix) (xCons (xVar 0) (xCons (xC (.int 31)) xNil))) (gNm 1)) (sSeq (sAsg (xLst true (xCons (xC (.str "")) (xCons (xC (.str " ")) (xCons (xC (.str "\n")) (xCons (xC (.str "add")) (xCons (xC (.str "add -")) (xCons (xC (.str "add - ")) (xCons (xC (.str "add 0\n")) (xCons (xC (.str "put 0 a -")) (xCons (xC (.str "put - a 0")) (xCons (xC (.str "turn 0 -")) (xCons (xC (.str "turn - 0")) xNil)))))))))))) (gNm 2)) (sSeq (sAsg (xBin (lCat true) (xVar 2) (xLst true (xCons (xC (.str "ask 0 -")) (xCons (xC (.str "ask 0")) (xCons (xC (.str "drop 0 A")) (xCons (xC (.str "drop  0 a")) (xCons (xC (.str "look 0 0")) xNil))))))) (gNm 2)) (sSeq (sFor (iRng (xC (.int 5))) (gNm 3) (sSeq (sAsg (xCall 1 (cw .l_text) (xCons (xCall 2 (cw .l_steps) (xCons (xVar 1) (xCons (xC (.int 20)) xNil))) xNil)) (gNm 4)) (sSeq (sFor (iRng (xCall 2 (cw .l_next) (xCons (xVar 1) (xCons (xC (.int 4)) xNil)))) (gNm 5) (sAsg (xMt "str" lJoin (xC (.str "\n")) (xCons (xSl true (xMt "str" (lSplit true) (xCall 2 (cw .l_changed) (xCons (xVar 1) (xCons (xVar 4) xNil))) (xCons (xC (.str "\n")) xNil)) xNoPart (xPart (xC (.int 30)))) xNil)) (gNm 4))) (sFor (iLst (xLst true (xCons (xVar 4) (xCons (xBin lIx (xVar 2) (xCall 2 (cw .l_next) (xCons (xVar 1) (xCons (xC (.int 16)) xNil)))) xNil)))) (gNm 6) (sFor (iRng (xC (.int 2))) (gNm 7) (sIf (xNotT (xTest (xCall 2 (cw .l_alike) (xCons (xCall 1 (cw .l_told) (xCons (xVar 6) xNil)) (xCons (xCall 1 (cw .l_due) (xCons (xVar 6) xNil)) xNil))))) (sRet (xC (.bl false))) sNext)))))) (sRet (xC (.bl true)))))))
def B_law_k11 (G : GA) (cw : CW) : LTS := (sSeq (sAsg (xCall 2 (cw .l_mix) (xCons (xVar 0) (xCons (xC (.int 37)) xNil))) (gNm 1)) (sSeq (sFor (iRng (xC (.int 8))) (gNm 2) (sSeq (sAsg (xCall 1 (cw .l_near) (xCons (xVar 1) xNil)) (gTp [3, 4, 5])) (sSeq (sAsg (xCall 2 (cw .l_next) (xCons (xVar 1) (xCons (xBin lPow (xC (.int 10)) (xC (.int 6))) xNil))) (gNm 6)) (sSeq (sAsg (xBin lIx (xLst true (xCons (xC (.str "")) (xCons (xC (.str "abcdefabc")) (xCons (xC (.str "g")) (xCons (xC (.str "aB")) (xCons (xBin lAdd (xVar 3) (xC (.str "-"))) (xCons (xC (.str "a a")) (xCons (xBin lMul (xC (.str "abcdef")) (xC (.int 9))) xNil)))))))) (xCall 2 (cw .l_next) (xCons (xVar 1) (xCons (xC (.int 7)) xNil)))) (gNm 7)) (sSeq (sAsg (xIf (xOrT (xTest (xBin lGt (xCB lLen (xCons (xVar 7) xNil)) (xC (.int 8)))) (xTest (xBin (lIn false) (xVar 7) (xTup (xCons (xC (.str "")) (xCons (xC (.str "g")) (xCons (xC (.str "aB")) (xCons (xC (.str "a a")) xNil)))))))) (xVar 7) (xBin lAdd (xSl true (xVar 3) xNoPart (xPart (xC (.int 7)))) (xC (.str "-")))) (gNm 7)) (sSeq (sAsg (xBin lIx (xLst true (xCons (xC (.int 0)) (xCons (xC (.int 7)) (xCons (xBin lAdd (xC (.int 7)) (xVar 6)) (xCons (xBin lSub (xNeg (xC (.int 1))) (xVar 6)) xNil))))) (xCall 2 (cw .l_next) (xCons (xVar 1) (xCons (xC (.int 4)) xNil)))) (gNm 8)) (sSeq (sAsg (xBin lIx (xLst true (xCons (xC (.str "")) (xCons (xC (.str "Just")) (xCons (xC (.str "justall")) (xCons (xC (.str "near")) (xCons (xC (.str "al")) xNil)))))) (xCall 2 (cw .l_next) (xCons (xVar 1) (xCons (xC (.int 5)) xNil)))) (gNm 9)) (sSeq (sAsg (xLst false xNil) (gNm 10)) (sSeq (sFor (iLst (xLst true (xCons (xTup (xCons (xVar 7) (xCons (xVar 8) (xCons (xVar 9) xNil)))) (xCons (xTup (xCons (xVar 3) (xCons (xVar 8) (xCons (xVar 9) xNil)))) (xCons (xTup (xCons (xVar 3) (xCons (xVar 4) (xCons (xVar 9) xNil)))) (xCons (xTup (xCons (xVar 3) (xCons (xVar 4) (xCons (xVar 5) xNil)))) xNil)))))) (gNm 11) (sSeq (sDrop (xMt "list" lAppend (xVar 10) (xCons (xLam (tblG G) (xMake G.cN 3 (cw .Near_init) (xCons (xBin lIx (xVar 11) (xC (.int 0))) (xCons (xBin lIx (xVar 11) (xC (.int 1))) (xCons (xBin lIx (xVar 11) (xC (.int 2))) xNil))))) xNil))) (sDrop (xMt "list" lAppend (xVar 10) (xCons (xLam (tblG G) (xCall 4 (cw .played) (xCons (xBin lIx (xVar 11) (xC (.int 0))) (xCons (xBin lIx (xVar 11) (xC (.int 1))) (xCons (xBin lIx (xVar 11) (xC (.int 2))) (xCons (xLst true xNil) xNil)))))) xNil))))) (sSeq (sIf (xTest (xBin (lEq true) (xVar 10) (xBin (lCat true) (xBin (lCat true) (xBin (lCat true) (xBin (lRep true) (xLst true (xCons (xC (.str "BadSpots")) xNil)) (xC (.int 2))) (xBin (lRep true) (xLst true (xCons (xC (.str "BadWide")) xNil)) (xC (.int 2)))) (xBin (lRep true) (xLst true (xCons (xC (.str "BadRule")) xNil)) (xC (.int 2)))) (xBin (lRep true) (xLst true (xCons (xC (.str "")) xNil)) (xC (.int 2)))))) (sRet (xC (.bl false))) sNext) (sSeq (sAsg (xLst false (xCons (xLam (tblG G) (xCall 3 (cw .held) (xCons (xVar 7) (xCons (xVar 8) (xCons (xLst true xNil) xNil))))) (xCons (xLam (tblG G) (xCall 3 (cw .held) (xCons (xVar 3) (xCons (xVar 8) (xCons (xLst true xNil) xNil))))) xNil))) (gNm 10)) (sSeq (sIf (xOrT (xTest (xBin (lEq true) (xVar 10) (xLst true (xCons (xC (.str "BadSpots")) (xCons (xC (.str "BadWide")) xNil))))) (xTest (xBin (lEq true) (xLam (tblG G) (xCall 3 (cw .held) (xCons (xC (.str "abcdefab")) (xCons (xC (.int 6)) (xCons (xLst true xNil) xNil))))) (xC (.str ""))))) (sRet (xC (.bl false))) sNext) (sSeq (sAsg (xMake G.cN 3 (cw .Near_init) (xCons (xVar 3) (xCons (xVar 4) (xCons (xVar 5) xNil)))) (gNm 12)) (sIf (xNotT (xTest (xCall 2 (cw .l_alike) (xCons (xLst true (xCons (xMeth G.cN "counts" 0 (cw .Near_counts) (xVar 12) xNil) (xCons (xMeth G.cN "kinds" 0 (cw .Near_kinds) (xVar 12) xNil) xNil))) (xCons (xLst true (xCons (xTup (xCons (xC (.int 0)) (xCons (xC (.int 0)) (xCons (xC (.int 0)) (xCons (xC (.int 0)) xNil))))) (xCons (xLst true xNil) xNil))) xNil))))) (sRet (xC (.bl false))) sNext)))))))))))))) (sRet (xC (.bl true)))))
def B_law_k12 (G : GA) (cw : CW) : LTS := (sSeq (sAsg (xCall 2 (cw .l_mix) (xCons (xVar 0) (xCons (xC (.int 41)) xNil))) (gNm 1)) (sSeq (sAsg (xLst false xNil) (gNm 2)) (sSeq (sFor (iRng (xC (.int 2))) (gNm 3) (sSeq (sAsg (xCall 1 (cw .l_near) (xCons (xVar 1) xNil)) (gTp [4, 5, 6])) (sDrop (xMt "list" lAppend (xVar 2) (xCons (xTup (xCons (xMake G.cN 3 (cw .Near_init) (xCons (xVar 4) (xCons (xVar 5) (xCons (xVar 6) xNil)))) (xCons (xCall 3 (cw .l_fresh) (xCons (xVar 4) (xCons (xVar 5) (xCons (xVar 6) xNil)))) xNil))) xNil))))) (sSeq (sFor (iRng (xCall 2 (cw .l_next) (xCons (xVar 1) (xCons (xC (.int 81)) xNil)))) (gNm 7) (sSeq (sAsg (xBin lIx (xVar 2) (xCall 2 (cw .l_next) (xCons (xVar 1) (xCons (xC (.int 2)) xNil)))) (gTp [8, 9])) (sSeq (sAsg (xCall 2 (cw .l_asks) (xCons (xVar 1) (xCons (xVar 9) xNil))) (gNm 10)) (sSeq (sAsg (xCall 2 (cw .l_do) (xCons (xVar 9) (xCons (xVar 10) xNil))) (gNm 11)) (sSeq (sIf (xNotT (xTest (xCall 2 (cw .l_alike) (xCons (xCall 2 (cw .l_does_k02) (xCons (xVar 8) (xCons (xVar 10) xNil))) (xCons (xVar 11) xNil))))) (sRet (xC (.bl false))) sNext) (sFor (iLst (xVar 2)) (gTp [12, 13]) (sSeq (sFor (iLst (xMeth G.cN "kinds" 0 (cw .Near_kinds) (xVar 12) xNil)) (gTp [14, 15]) (sDrop (xMt "list" lClear (xVar 15) xNil))) (sSeq (sDrop (xMt "list" lAppend (xMeth G.cN "entries" 1 (cw .Near_entries) (xVar 12) (xCons (xC (.int 0)) xNil)) (xCons (xTup (xCons (xC (.int 0)) (xCons (xC .non) xNil))) xNil))) (sIf (xNotT (xTest (xCall 2 (cw .l_is) (xCons (xVar 12) (xCons (xVar 13) xNil))))) (sRet (xC (.bl false))) sNext))))))))) (sRet (xC (.bl true)))))))
def B_l_name (G : GA) (is : LC) : LTS := (sSeq (sAsg (xLst true (xCons (xCB is (xCons (xVar 0) (xCons (xC (.ref G.eTooMany)) xNil))) (xCons (xCB is (xCons (xVar 0) (xCons (xC (.ref G.eNoKind)) xNil))) (xCons (xCB is (xCons (xVar 0) (xCons (xC (.ref G.eNoDeed)) xNil))) (xCons (xCB is (xCons (xVar 0) (xCons (xC (.ref G.eNoBody)) xNil))) xNil))))) (gNm 1)) (sSeq (sAsg (xBin (lCat true) (xVar 1) (xLst true (xCons (xCB is (xCons (xVar 0) (xCons (xC (.ref G.eRing)) xNil))) (xCons (xCB is (xCons (xVar 0) (xCons (xC (.ref G.eBadSpots)) xNil))) (xCons (xCB is (xCons (xVar 0) (xCons (xC (.ref G.eBadWide)) xNil))) (xCons (xCB is (xCons (xVar 0) (xCons (xC (.ref G.eBadRule)) xNil))) xNil)))))) (gNm 1)) (sSeq (sAsg (xBin (lCat true) (xVar 1) (xLst true (xCons (xCB is (xCons (xVar 0) (xCons (xC (.ref G.eNoSpot)) xNil))) (xCons (xCB is (xCons (xVar 0) (xCons (xC (.ref G.eBadText)) xNil))) xNil)))) (gNm 1)) (sSeq (sAsg (xLst true (xCons (xC (.str "TooMany")) (xCons (xC (.str "NoKind")) (xCons (xC (.str "NoDeed")) (xCons (xC (.str "NoBody")) (xCons (xC (.str "Ring")) (xCons (xC (.str "BadSpots")) (xCons (xC (.str "BadWide")) (xCons (xC (.str "BadRule")) (xCons (xC (.str "NoSpot")) (xCons (xC (.str "BadText")) xNil))))))))))) (gNm 2)) (sRet (xIf (xAndT (xTest (xBin (lEq false) (xMt "list" lCount (xVar 1) (xCons (xC (.bl true)) xNil)) (xC (.int 1)))) (xTest (xCB is (xCons (xVar 0) (xCons (xC (.ty "ValueError")) xNil))))) (xBin lIx (xVar 2) (xMt "list" lIndex (xVar 1) (xCons (xC (.bl true)) xNil))) (xC (.str "other"))))))))
theorem nm_eq {G : GA} {is : LC} : B_l_name G is = nmB [G.eTooMany, G.eNoKind, G.eNoDeed, G.eNoBody, G.eRing, G.eBadSpots, G.eBadWide, G.eBadRule, G.eNoSpot, G.eBadText] is := rfl
abbrev NB := True
def tab (G : GA) : Fn → Nat × Nat × (CW → LTS)
  | .need_deed => (1, 1, B_need_deed G)
  | .World_init => (1, 1, B_World_init G)
  | .World_need_kind => (2, 2, B_World_need_kind G)
  | .World_need_elder => (2, 2, B_World_need_elder G)
  | .World_add => (2, 2, B_World_add G)
  | .World_put => (4, 4, B_World_put G)
  | .World_drop => (3, 3, B_World_drop G)
  | .World_turn => (3, 3, B_World_turn G)
  | .World_above => (2, 3, B_World_above G)
  | .World_up => (2, 2, B_World_up G)
  | .World_found_by => (3, 4, B_World_found_by G)
  | .World_find => (3, 3, B_World_find G)
  | .World_kinds => (1, 5, B_World_kinds G)
  | .l_mix => (2, 4, B_l_mix G)
  | .l_next => (2, 4, B_l_next G)
  | .l_alike => (2, 3, B_l_alike G)
  | .l_world => (0, 0, B_l_world G)
  | .l_up => (2, 2, B_l_up G)
  | .l_find => (3, 5, B_l_find G)
  | .l_word => (2, 6, B_l_word G)
  | .l_change => (2, 2, B_l_change G)
  | .l_kinds => (1, 5, B_l_kinds G)
  | .l_step => (2, 7, B_l_step G)
  | .l_odd => (2, 7, B_l_odd G)
  | .l_does => (2, 3, B_l_does G)
  | .l_is_k01 => (3, 8, B_l_is_k01 G)
  | .law_k01 => (1, 9, B_law_k01 G)
  | .need_spots => (2, 3, B_need_spots G)
  | .Near_init => (4, 5, B_Near_init G)
  | .Near_forget => (2, 8, B_Near_forget G)
  | .Near_touched_by => (3, 8, B_Near_touched_by G)
  | .Near_add => (2, 2, B_Near_add G)
  | .Near_put => (4, 5, B_Near_put G)
  | .Near_drop => (3, 4, B_Near_drop G)
  | .Near_turn => (3, 4, B_Near_turn G)
  | .Near_need_spot => (2, 2, B_Near_need_spot G)
  | .Near_ask => (3, 7, B_Near_ask G)
  | .Near_entries => (2, 2, B_Near_entries G)
  | .Near_counts => (1, 1, B_Near_counts G)
  | .Near_kinds => (1, 1, B_Near_kinds G)
  | .l_near => (1, 4, B_l_near G)
  | .l_fresh => (3, 5, B_l_fresh G)
  | .l_forgets => (4, 4, B_l_forgets G)
  | .l_ask => (3, 9, B_l_ask G)
  | .l_do => (2, 10, B_l_do G)
  | .l_asks => (2, 6, B_l_asks G)
  | .l_does_k02 => (2, 3, B_l_does_k02 G)
  | .l_is => (2, 3, B_l_is G)
  | .law_k02 => (1, 12, B_law_k02 G)
  | .l_done => (2, 2, B_l_done G)
  | .l_are_true => (3, 6, B_l_are_true G)
  | .law_k03 => (1, 15, B_law_k03 G)
  | .l_done_k04 => (2, 2, B_l_done_k04 G)
  | .l_kept => (2, 6, B_l_kept G)
  | .law_k04 => (1, 18, B_law_k04 G)
  | .told_by => (2, 2, B_told_by G)
  | .done => (2, 2, B_done G)
  | .played => (4, 6, B_played G)
  | .law_k05 => (1, 19, B_law_k05 G)
  | .watched_in => (3, 6, B_watched_in G)
  | .Near_watched => (3, 3, B_Near_watched G)
  | .l_watched => (3, 5, B_l_watched G)
  | .law_k06 => (1, 14, B_law_k06 G)
  | .l_does_k07 => (2, 3, B_l_does_k07 G)
  | .l_again => (1, 3, B_l_again G)
  | .l_all => (2, 8, B_l_all G)
  | .law_k07 => (1, 15, B_law_k07 G)
  | .held => (3, 6, B_held G)
  | .l_all_k08 => (4, 6, B_l_all_k08 G)
  | .law_k08 => (1, 16, B_law_k08 G)
  | .written => (1, 4, B_written G)
  | .number_of => (1, 2, B_number_of G)
  | .is_so => (2, 2, B_is_so G)
  | .part_of => (2, 2, B_part_of G)
  | .l_text => (1, 3, B_l_text G)
  | .l_steps => (2, 9, B_l_steps G)
  | .law_k09 => (1, 7, B_law_k09 G)
  | .l_part => (2, 4, B_l_part G)
  | .l_due => (1, 9, B_l_due G)
  | .l_changed => (2, 12, B_l_changed G)
  | .law_k10 => (1, 8, B_law_k10 G)
  | .law_k11 => (1, 13, B_law_k11 G)
  | .law_k12 => (1, 16, B_law_k12 G)
  | .l_kind => (0, 0, fun _ _ _ _ => False)
  | .l_told => (0, 0, fun _ _ _ _ => False)
  | .read => (0, 0, fun _ _ _ _ => False)
  | .step_of => (0, 0, fun _ _ _ _ => False)

/-- a def's contract by its body, n calls deep -/
def cwk (G : GA) : Nat → CW
  | 0 => fun _ _ _ _ _ => False
  | k + 1 => fun f => bodyC (tab G f).1 (tab G f).2.1 ((tab G f).2.2 (cwk G k))
end LK
set_option Elab.async false
set_option linter.all false
set_option maxRecDepth 100000
set_option maxHeartbeats 2000000
/-! Reading a logical body: head first. -/
namespace LK
open PySem PySem.Spec PyProof.Rows L2
section
variable {a c d : LSt → LHp → Prop} {b : QL} {e : XL} {σ : LSt} {L : LHp} {Q : QL} {E : XL} {QT : Bool → LHp → Prop} {QA : List LV → LHp → Prop} {QG : LSt → LHp → Prop}
@[simp ↓] theorem w_seq {t u : LTS} : sSeq t u { nx := a, rt := b, bk := c, ct := d, ex := e } σ L = t { nx := u { nx := a, rt := b, bk := c, ct := d, ex := e }, rt := b, bk := c, ct := d, ex := e } σ L := id rfl
@[simp ↓] theorem w_next : sNext { nx := a, rt := b, bk := c, ct := d, ex := e } σ L = a σ L := id rfl
@[simp ↓] theorem w_asg {x : LTE} {g : LTG} : sAsg x g { nx := a, rt := b, bk := c, ct := d, ex := e } σ L = x σ L (fun v L1 => g v σ L1 a e) e := id rfl
@[simp ↓] theorem w_drop {x : LTE} : sDrop x { nx := a, rt := b, bk := c, ct := d, ex := e } σ L = x σ L (fun _ L1 => a σ L1) e := id rfl
@[simp ↓] theorem w_ret {x : LTE} : sRet x { nx := a, rt := b, bk := c, ct := d, ex := e } σ L = x σ L b e := id rfl
@[simp ↓] theorem w_retn : sRetN { nx := a, rt := b, bk := c, ct := d, ex := e } σ L = b .non L := id rfl
def brS (b : Bool) (t u : LTS) : LTS := fun D σ L => match b with
  | true => t D σ L
  | false => u D σ L
@[simp ↓] theorem brS_t {t u : LTS} : brS true t u = t := id rfl
@[simp ↓] theorem brS_f {t u : LTS} : brS false t u = u := id rfl
@[simp ↓] theorem w_if {k : LTT} {t u : LTS} : sIf k t u { nx := a, rt := b, bk := c, ct := d, ex := e } σ L = k σ L (fun z L1 => brS z t u { nx := a, rt := b, bk := c, ct := d, ex := e } σ L1) e := by
  unfold sIf brS
  congr 1
@[simp ↓] theorem w_raise {C : Addr} : sRaise C { nx := a, rt := b, bk := c, ct := d, ex := e } σ L = e ⟨C, none⟩ L := id rfl
@[simp ↓] theorem w_nm {i : Nat} {v : LV} {E : XL} : gNm i v σ L QG E = QG (σ.set i (some v)) L := id rfl
@[simp ↓] theorem w_tp {is : List Nat} {v : LV} {E : XL} : gTp is v σ L QG E = (match tupOf v with
  | some ls => ls.length = is.length ∧ QG (setAll σ is ls) L
  | none => False) := id rfl
@[simp ↓] theorem w_gsub {xo xi : LTE} {v : LV} : gSubL xo xi v σ L QG E = xo σ L (fun o L1 => xi σ L1 (fun i L2 => lSetI o i v L2 (fun L3 => QG σ L3)) E) E := id rfl
@[simp ↓] theorem w_var {i : Nat} : xVar i σ L Q E = (match σ[i]? with
  | some (some l) => Q l L
  | _ => False) := id rfl
@[simp ↓] theorem w_c {l : LV} : xC l σ L Q E = Q l L := id rfl
@[simp ↓] theorem w_bin {lr : LR2} {xa xb : LTE} : xBin lr xa xb σ L Q E = xa σ L (fun a L1 => xb σ L1 (fun b L2 => lr a b L2 Q) E) E := id rfl
def brB (a : LV) (QT : Bool → LHp → Prop) (L : LHp) : Prop := match a with
  | .bl k => QT k L
  | _ => False
@[simp ↓] theorem brB_bl {k : Bool} : brB (.bl k) QT L = QT k L := id rfl
@[simp ↓] theorem w_test {x : LTE} : xTest x σ L QT E = x σ L (fun a L1 => brB a QT L1) E := id rfl
def brC (z : LV) (f : LHp → Prop) (Q : QL) (L : LHp) : Prop := match z with
  | .bl true => f L
  | .bl false => Q (.bl false) L
  | _ => False
theorem brC_bl {k : Bool} {f : LHp → Prop} : brC (.bl k) f Q L = (if k = true then f L else Q (.bl false) L) := by cases k <;> rfl
@[simp ↓] theorem brC_t {f : LHp → Prop} : brC (.bl true) f Q L = f L := id rfl
@[simp ↓] theorem brC_f {f : LHp → Prop} : brC (.bl false) f Q L = Q (.bl false) L := id rfl
@[simp ↓] theorem w_chain {lr lr' : LR2} {xa xb xc : LTE} : xChain lr lr' xa xb xc σ L Q E = xa σ L (fun a L1 => xb σ L1 (fun b L2 => lr a b L2 (fun z L3 => brC z (fun L3 => xc σ L3 (fun c L4 => lr' b c L4 Q) E) Q L3)) E) E := id rfl
def brT (b : Bool) (f g : LHp → Prop) (L : LHp) : Prop := match b with
  | true => f L
  | false => g L
@[simp ↓] theorem brT_t {f g : LHp → Prop} : brT true f g L = f L := id rfl
@[simp ↓] theorem brT_f {f g : LHp → Prop} : brT false f g L = g L := id rfl
@[simp ↓] theorem w_andT {c d : LTT} : xAndT c d σ L QT E = c σ L (fun b L1 => brT b (fun L1 => d σ L1 QT E) (QT false) L1) E := by
  unfold xAndT brT
  congr 1
@[simp ↓] theorem w_orT {c d : LTT} : xOrT c d σ L QT E = c σ L (fun b L1 => brT b (QT true) (fun L1 => d σ L1 QT E) L1) E := by
  unfold xOrT brT
  congr 1
@[simp ↓] theorem w_notT {c : LTT} : xNotT c σ L QT E = c σ L (fun b L1 => QT (!b) L1) E := id rfl
def brV (a : LV) (f g : LHp → Prop) (L : LHp) : Prop := match a with
  | .bl true => f L
  | .bl false => g L
  | _ => False
@[simp ↓] theorem brV_t {f g : LHp → Prop} : brV (.bl true) f g L = f L := id rfl
@[simp ↓] theorem brV_f {f g : LHp → Prop} : brV (.bl false) f g L = g L := id rfl
theorem brV_bl {k : Bool} {f g : LHp → Prop} : brV (.bl k) f g L = (if k = true then f L else g L) := by cases k <;> rfl
@[simp ↓] theorem w_and {xa xb : LTE} : xAnd xa xb σ L Q E = xa σ L (fun a L1 => brV a (fun L1 => xb σ L1 Q E) (Q (.bl false)) L1) E := id rfl
@[simp ↓] theorem w_or {xa xb : LTE} : xOr xa xb σ L Q E = xa σ L (fun a L1 => brV a (Q (.bl true)) (fun L1 => xb σ L1 Q E) L1) E := id rfl
@[simp ↓] theorem w_ife {c : LTT} {xa xb : LTE} : xIf c xa xb σ L Q E = c σ L (fun b L1 => brT b (fun L1 => xa σ L1 Q E) (fun L1 => xb σ L1 Q E) L1) E := by
  unfold xIf brT
  congr 1
@[simp ↓] theorem w_ift {c d e : LTT} : xIfT c d e σ L QT E = c σ L (fun b L1 => brT b (fun L1 => d σ L1 QT E) (fun L1 => e σ L1 QT E) L1) E := by
  unfold xIfT brT
  congr 1
@[simp ↓] theorem w_nil : xNil σ L QA E = QA [] L := id rfl
@[simp ↓] theorem w_cons {x : LTE} {t : LTA} : xCons x t σ L QA E = x σ L (fun a L1 => t σ L1 (fun as L2 => QA (a :: as) L2) E) E := id rfl
@[simp ↓] theorem w_tup {t : LTA} : xTup t σ L Q E = t σ L (fun as L1 => as.length ≤ sizeLine ∧ Q (.tup as) L1) E := id rfl
@[simp ↓] theorem w_lst {fr : Bool} {t : LTA} : xLst fr t σ L Q E = t σ L (fun as L1 => as.length ≤ sizeLine ∧ newL fr as L1 Q) E := id rfl
@[simp ↓] theorem w_newT {ls : List LV} : newL true ls L Q = Q (.lst ls) L := id rfl
@[simp ↓] theorem w_newF {ls : List LV} : newL false ls L Q = (∀ p, L p = none → Q (.ref p) (lup L p (.lst ls))) := id rfl
@[simp ↓] theorem w_cb {lr : LC} {t : LTA} : xCB lr t σ L Q E = t σ L (fun as L1 => lr as L1 Q) E := id rfl
@[simp ↓] theorem w_mt {T : String} {lr : LM} {xo : LTE} {t : LTA} : xMt T lr xo t σ L Q E = xo σ L (fun a L1 => tyL T L1 a = true ∧ t σ L1 (fun as L2 => lr a as L2 Q) E) E := id rfl
@[simp ↓] theorem w_call {n : Nat} {c : LCall} {t : LTA} : xCall n c t σ L Q E = t σ L (fun as L1 => as.length = n ∧ c as L1 Q E) E := id rfl
def brM (C : Addr) (m : Str) (a : LV) (f : Addr → LHp → Prop) (L : LHp) : Prop := match a with
  | .ref p => ∃ fs, L p = some (.ins C fs) ∧ fs.lookup m = none ∧ f p L
  | _ => False
theorem brM_of {C p : Addr} {m : Str} {f : Addr → LHp → Prop} {fs : List (Str × LV)} (h : L p = some (.ins C fs)) (h2 : fs.lookup m = none) : brM C m (.ref p) f L = f p L := propext ⟨fun ⟨fs', e1, e2, q⟩ => q, fun q => ⟨fs, h, h2, q⟩⟩
@[simp ↓] theorem w_meth {C : Addr} {m : Str} {n : Nat} {c : LCall} {xo : LTE} {t : LTA} : xMeth C m n c xo t σ L Q E = xo σ L (fun a L1 => brM C m a (fun p L1 => t σ L1 (fun as L2 => as.length = n ∧ c (.ref p :: as) L2 Q E) E) L1) E := by
  unfold xMeth brM
  congr 1
def brF (C : Addr) (f : Str) (a : LV) (Q : QL) (L : LHp) : Prop := match a with
  | .ref p => ∃ fs l, L p = some (.ins C fs) ∧ fs.lookup f = some l ∧ Q l L
  | _ => False
theorem brF_ref {C p : Addr} {f : Str} {fs : List (Str × LV)} {l : LV} (h : L p = some (.ins C fs)) (h2 : fs.lookup f = some l) : brF C f (.ref p) Q L = Q l L := propext ⟨fun ⟨fs', l', e1, e2, q⟩ => by
  rw [h] at e1
  cases e1
  rw [h2] at e2
  cases e2
  exact q, fun q => ⟨fs, l, h, h2, q⟩⟩
@[simp ↓] theorem w_fld {C : Addr} {f : Str} {xa : LTE} : xFld C f xa σ L Q E = xa σ L (fun a L1 => brF C f a Q L1) E := by
  unfold xFld brF
  congr 1
def brP (C : Addr) (f : Str) (v a : LV) (N : LHp → Prop) (L : LHp) : Prop := match a with
  | .ref p => ∃ fs, L p = some (.ins C fs) ∧ fs.length < 1000 ∧ N (lup L p (.ins C (pf f v fs)))
  | _ => False
theorem brP_ref {C p : Addr} {f : Str} {v : LV} {N : LHp → Prop} {fs : List (Str × LV)} (h : L p = some (.ins C fs)) (h2 : fs.length < 1000) : brP C f v (.ref p) N L = N (lup L p (.ins C (pf f v fs))) := propext ⟨fun ⟨fs', e1, e2, q⟩ => by
  rw [h] at e1
  cases e1
  exact q, fun q => ⟨fs, h, h2, q⟩⟩
@[simp ↓] theorem w_sfld {C : Addr} {f : Str} {xo xv : LTE} : sFld C f xo xv { nx := a, rt := b, bk := c, ct := d, ex := e } σ L = xv σ L (fun v L1 => xo σ L1 (fun p L2 => brP C f v p (fun L3 => a σ L3) L2) e) e := by
  unfold sFld brP
  congr 1
@[simp ↓] theorem w_make {C : Addr} {n : Nat} {c : LCall} {t : LTA} : xMake C n c t σ L Q E = t σ L (fun as L1 => as.length = n ∧ ∀ p, L1 p = none → c (.ref p :: as) (lup L1 p (.ins C [])) (fun v L2 => v = .non ∧ Q (.ref p) L2) E) E := id rfl
@[simp ↓] theorem w_dk : xDK σ L Q E = (∀ p, L p = none → Q (.ref p) (lup L p (.dct []))) := id rfl
@[simp ↓] theorem w_dt : xDT σ L Q E = (∀ p, L p = none → Q (.ref p) (lup L p (.dtt []))) := id rfl
@[simp ↓] theorem w_frz {x : LTE} : xFrz x σ L Q E = x σ L (fun v L1 => match v with
  | .ref p => ∃ ls, L1 p = some (.lst ls) ∧ Q (.lst ls) (ler L1 p)
  | _ => False) E := id rfl
@[simp ↓] theorem w_part {x : LTE} {QO : Option Int → LHp → Prop} : xPart x σ L QO E = x σ L (fun a L1 => match a with
  | .int i => QO (some i) L1
  | _ => False) E := id rfl
@[simp ↓] theorem w_nopart {QO : Option Int → LHp → Prop} : xNoPart σ L QO E = QO none L := id rfl
@[simp ↓] theorem w_sl {fr : Bool} {xe : LTE} {xl xh : LTO} : xSl fr xe xl xh σ L Q E = xe σ L (fun a L1 => xl σ L1 (fun lo L2 => xh σ L2 (fun hi L3 => lSl fr a lo hi L3 Q) E) E) E := id rfl
@[simp ↓] theorem w_for {it : LTI} {g : LTG} {bd : LTS} : sFor it g bd { nx := a, rt := b, bk := c, ct := d, ex := e } σ L = it σ L (fun items stay L1 => forGo g bd stay { nx := a, rt := b, bk := c, ct := d, ex := e } items σ L1) e := id rfl
variable {R : List LV → (LHp → Prop) → LHp → Prop}
def brL (a : LV) (R : List LV → (LHp → Prop) → LHp → Prop) (L : LHp) : Prop := match a with
  | .lst ls => R ls (fun _ => True) L
  | .wl ls => R ls (fun _ => True) L
  | .ref p => ∃ ls, L p = some (.lst ls) ∧ R ls (fun L' => L' p = some (.lst ls)) L
  | _ => False
@[simp ↓] theorem brL_lst {ls : List LV} : brL (.lst ls) R L = R ls (fun _ => True) L := id rfl
@[simp ↓] theorem brL_wl {ls : List LV} : brL (.wl ls) R L = R ls (fun _ => True) L := id rfl
theorem brL_ref {p : Addr} {ls : List LV} (h : L p = some (.lst ls)) : brL (.ref p) R L = R ls (fun L' => L' p = some (.lst ls)) L := propext ⟨fun ⟨ls', e1, q⟩ => by
  rw [h] at e1
  cases e1
  exact q, fun q => ⟨ls, h, q⟩⟩
@[simp ↓] theorem w_ilst {x : LTE} : iLst x σ L R E = x σ L (fun a L1 => brL a R L1) E := by
  unfold iLst brL
  congr 1
@[simp ↓] theorem w_itup {x : LTE} : iTup x σ L R E = x σ L (fun a L1 => match tupOf a with
  | some ls => R ls (fun _ => True) L1
  | none => False) E := id rfl
@[simp ↓] theorem w_istr {x : LTE} : iStr x σ L R E = x σ L (fun a L1 => match a with
  | .str z => R (signs z) (fun _ => True) L1
  | _ => False) E := id rfl
@[simp ↓] theorem w_irng {x : LTE} : iRng x σ L R E = x σ L (fun a L1 => match a with
  | .int j => -(2 ^ 62) ≤ j ∧ j < 2 ^ 62 ∧ R (upto j.toNat) (fun _ => True) L1
  | _ => False) E := id rfl
/-! operators at values -/
variable {i j : Int} {x y : Str} {a b : LV} {p : Addr}
@[simp ↓] theorem o_add_i : lAdd (.int i) (.int j) L Q = Q (.int (i + j)) L := id rfl
@[simp ↓] theorem o_add_s : lAdd (.str x) (.str y) L Q = (x.length + y.length ≤ sizeLine ∧ Q (.str (x ++ y)) L) := id rfl
@[simp ↓] theorem o_sub_i : lSub (.int i) (.int j) L Q = Q (.int (i - j)) L := id rfl
@[simp ↓] theorem o_mul_i : lMul (.int i) (.int j) L Q = (CMul i j ∧ Q (.int (i * j)) L) := id rfl
@[simp ↓] theorem o_mod_i : lMod (.int i) (.int j) L Q = (0 < j ∧ Q (.int (i % j)) L) := id rfl
@[simp ↓] theorem o_div_i : lDiv (.int i) (.int j) L Q = (CDiv i j ∧ Q (.int (i / j)) L) := id rfl
@[simp ↓] theorem o_pow_i : lPow (.int i) (.int j) L Q = (CPow i j ∧ Q (.int (i ^ j.toNat)) L) := id rfl
@[simp ↓] theorem o_lt_i : lLt (.int i) (.int j) L Q = Q (.bl (decide (i < j))) L := id rfl
@[simp ↓] theorem o_le_i : lLe (.int i) (.int j) L Q = Q (.bl (decide (i ≤ j))) L := id rfl
@[simp ↓] theorem o_gt_i : lGt (.int i) (.int j) L Q = Q (.bl (decide (j < i))) L := id rfl
@[simp ↓] theorem o_ge_i : lGe (.int i) (.int j) L Q = Q (.bl (decide (j ≤ i))) L := id rfl
@[simp ↓] theorem o_neg {xa : LTE} : xNeg xa σ L Q E = xa σ L (fun a L1 => match a with
  | .int i => Q (.int (-i)) L1
  | _ => False) E := id rfl
@[simp ↓] theorem o_eq_s {ng : Bool} : lEq ng (.str x) (.str y) L Q = Q (.bl (ng != decide (x = y))) L := id rfl
@[simp ↓] theorem o_eq_i {ng : Bool} : lEq ng (.int i) (.int j) L Q = Q (.bl (ng != decide (i = j))) L := id rfl
@[simp ↓] theorem o_eq_b {ng k m : Bool} : lEq ng (.bl k) (.bl m) L Q = Q (.bl (ng != decide (k = m))) L := id rfl
@[simp ↓] theorem o_eq_ns {ng : Bool} : lEq ng .non (.str y) L Q = Q (.bl ng) L := id rfl
@[simp ↓] theorem o_eq_sn {ng : Bool} : lEq ng (.str x) .non L Q = Q (.bl ng) L := id rfl
@[simp ↓] theorem o_is_n {ng : Bool} : lIs ng a .non L Q = Q (.bl (ng != a.isN)) L := id rfl
@[simp] theorem isN_non : LV.isN .non = true := id rfl
@[simp] theorem isN_int : LV.isN (.int i) = false := id rfl
@[simp] theorem isN_str : LV.isN (.str x) = false := id rfl
@[simp] theorem isN_tup {ls : List LV} : LV.isN (.tup ls) = false := id rfl
@[simp] theorem isN_bl {k : Bool} : LV.isN (.bl k) = false := id rfl
@[simp ↓] theorem c_len_s : lLen [.str x] L Q = (x.length ≤ sizeLine ∧ Q (.int x.length) L) := id rfl
@[simp ↓] theorem c_len_l {ls : List LV} : lLen [.lst ls] L Q = Q (.int ls.length) L := id rfl
@[simp ↓] theorem c_len_t {ls : List LV} : lLen [.tup ls] L Q = Q (.int ls.length) L := id rfl
theorem c_len_r {ls : List LV} (h : L p = some (.lst ls)) : lLen [.ref p] L Q = Q (.int ls.length) L := by
  simp only [lLen, tupOf, lstOf, h]
@[simp ↓] theorem c_max_i : lMax [.int i, .int j] L Q = Q (.int (if j > i then j else i)) L := id rfl
@[simp ↓] theorem c_min_i : lMin [.int i, .int j] L Q = Q (.int (if j < i then j else i)) L := id rfl
@[simp ↓] theorem c_int_i : lInt [.int i] L Q = Q (.int i) L := id rfl
@[simp ↓] theorem c_int_b {k : Bool} : lInt [.bl k] L Q = Q (.int (if k then 1 else 0)) L := id rfl
@[simp ↓] theorem c_str_i : lStr [.int i] L Q = (i.natAbs.log2 < 1920 ∧ Q (.str (toString i)) L) := id rfl
@[simp ↓] theorem c_list_l {fr : Bool} {ls : List LV} : lList fr [.lst ls] L Q = newL fr ls L Q := id rfl
@[simp ↓] theorem c_list_t {fr : Bool} {ls : List LV} : lList fr [.tup ls] L Q = newL fr ls L Q := id rfl
@[simp ↓] theorem c_list_w {fr : Bool} {ls : List LV} : lList fr [.wl ls] L Q = newL fr ls L Q := id rfl
theorem c_list_r {fr : Bool} {ls : List LV} (h : L p = some (.lst ls)) : lList fr [.ref p] L Q = newL fr ls L Q := by
  simp only [lList, tupOf, lstOf, h]
@[simp ↓] theorem c_tuple_l {ls : List LV} : lTuple [.lst ls] L Q = Q (.tup ls) L := id rfl
/-! subscripts -/
def onS (o : Option LV) (Q : QL) (L : LHp) : Prop := match o with
  | some l => Q l L
  | none => False
@[simp ↓] theorem onS_some {l : LV} : onS (some l) Q L = Q l L := id rfl
theorem onS_of {o : Option LV} {l : LV} (h : o = some l) : onS o Q L = Q l L := by rw [h]; rfl
theorem ix_r {ls : List LV} (h : L p = some (.lst ls)) : lIx (.ref p) (.int i) L Q = onS (L2.atI ls i) Q L := by
  simp only [lIx, h, onS]
  try (cases L2.atI ls i <;> rfl)
@[simp ↓] theorem ix_l {ls : List LV} : lIx (.lst ls) (.int i) L Q = onS (L2.atI ls i) Q L := by
  simp only [lIx, onS]
  try (cases L2.atI ls i <;> rfl)
@[simp ↓] theorem ix_t {ls : List LV} : lIx (.tup ls) (.int i) L Q = onS (L2.atI ls i) Q L := by
  simp only [lIx, tupOf, onS]
  try (cases L2.atI ls i <;> rfl)
theorem ix_d {kvs : List (Key × LV)} (h : L p = some (.dct kvs)) : lIx (.ref p) (.str x) L Q = onS (vl kvs (.inr x)) Q L := by
  simp only [lIx, h, dAt, lKey, onS, Option.map]
  try (cases vl kvs (.inr x) <;> rfl)
theorem ixN_nat {n k : Nat} (h : k < n) : ixN n (k : Int) = some k := by
  unfold ixN
  simp [h]
theorem atI_nat {α : Type} {ls : List α} {k : Nat} {l : α} (h : ls[k]? = some l) : L2.atI ls (k : Int) = some l := by
  unfold L2.atI
  rw [ixN_nat (List.getElem?_eq_some_iff.mp h).1]
  exact h
@[simp] theorem atI_0 {α : Type} {l : α} {ls : List α} : L2.atI (l :: ls) 0 = some l := atI_nat (k := 0) rfl
@[simp] theorem atI_1 {α : Type} {l l1 : α} {ls : List α} : L2.atI (l :: l1 :: ls) 1 = some l1 := atI_nat (k := 1) rfl
@[simp] theorem atI_2 {α : Type} {l l1 l2 : α} {ls : List α} : L2.atI (l :: l1 :: l2 :: ls) 2 = some l2 := atI_nat (k := 2) rfl
@[simp] theorem atI_3 {α : Type} {l l1 l2 l3 : α} {ls : List α} : L2.atI (l :: l1 :: l2 :: l3 :: ls) 3 = some l3 := atI_nat (k := 3) rfl
@[simp ↓] theorem tyL_l {T : String} {ls : List LV} : (tyL T L (.lst ls) = true) = (T == "list" : Bool) := id rfl
@[simp ↓] theorem tyL_s {T : String} : (tyL T L (.str x) = true) = (T == "str" : Bool) := id rfl
theorem tyL_rl {ls : List LV} (h : L p = some (.lst ls)) : (tyL "list" L (.ref p) = true) = True := by
  simp only [tyL, h, beq_self_eq_true]
theorem tyL_rd {ls : List (Key × LV)} (h : L p = some (.dct ls)) : (tyL "dict" L (.ref p) = true) = True := by
  simp only [tyL, h, beq_self_eq_true]
theorem mt_app {ls : List LV} (h : L p = some (.lst ls)) : lAppend (.ref p) [a] L Q = (ls.length < sizeLine ∧ Q .non (lup L p (.lst (ls ++ [a])))) := by
  simp only [lAppend, h]
theorem set_l {ls : List LV} {N : LHp → Prop} {k : Nat} (h : L p = some (.lst ls)) (hk : k < ls.length) : lSetI (.ref p) (.int k) a L N = N (lup L p (.lst (ls.set k a))) := by
  simp only [lSetI, h, ixN_nat hk]
theorem set_d {kvs : List (Key × LV)} {N : LHp → Prop} (h : L p = some (.dct kvs)) : lSetI (.ref p) (.str x) a L N = (kvs.length < sizeLine ∧ N (lup L p (.dct (pl kvs (.inr x) a)))) := by
  simp only [lSetI, h, lKey]
theorem in_d {ng : Bool} {kvs : List (Key × LV)} (h : L p = some (.dct kvs)) : lIn ng (.str x) (.ref p) L Q = Q (.bl (ng != (vl kvs (.inr x)).isSome)) L := by
  simp only [lIn, h, dAt, lKey, Option.map]
@[simp] theorem startL_def {n : Nat} {ls : List LV} : startL n ls = ls.map some ++ List.replicate (n - ls.length) none := id rfl
/-! loops -/
theorem forGo_ind {g : LTG} {body : LTS} {stay : LHp → Prop} {dn db dc : LSt → LHp → Prop} {dr : QL} {de : XL} {items : List LV} {σ : LSt} {L : LHp} (Inv : List LV → LSt → LHp → Prop) (h0 : Inv items σ L) (hend : ∀ σ L, Inv [] σ L → dn σ L)
    (hstep : ∀ l ls σ L (N : LSt → LHp → Prop), Inv (l :: ls) σ L → (∀ σ3 L3, Inv ls σ3 L3 → stay L3 → N σ3 L3) → g l σ L (fun σ2 L2 => body { nx := N, rt := dr, bk := dn, ct := N, ex := de } σ2 L2) de) : forGo g body stay { nx := dn, rt := dr, bk := db, ct := dc, ex := de } items σ L := by
  induction items generalizing σ L with
  | nil => exact hend σ L h0
  | cons l ls ih => exact hstep l ls σ L _ h0 fun σ3 L3 h3 st => ⟨st, ih h3⟩
theorem whGo_ind {c : LTT} {body : LTS} {dn db dc : LSt → LHp → Prop} {dr : QL} {de : XL} (Inv : Nat → LSt → LHp → Prop) {n : Nat} {σ : LSt} {L : LHp} (h0 : Inv n σ L)
    (hstep : ∀ n σ L (N : LSt → LHp → Prop), Inv n σ L → (∀ m σ3 L3, n = m + 1 → Inv m σ3 L3 → N σ3 L3) → c σ L (fun b L1 => brT b (fun L1 => body { nx := N, rt := dr, bk := dn, ct := N, ex := de } σ L1) (fun L1 => dn σ L1) L1) de) : sWhile c body { nx := dn, rt := dr, bk := db, ct := dc, ex := de } σ L := by
  refine ⟨n + 1, ?_⟩
  induction n generalizing σ L with
  | zero =>
    have := hstep 0 σ L (whGo c body { nx := dn, rt := dr, bk := db, ct := dc, ex := de } 0) h0 fun m _ _ e => nomatch e
    unfold whGo
    unfold brT at this
    exact this
  | succ n ih =>
    have := hstep (n + 1) σ L (whGo c body { nx := dn, rt := dr, bk := db, ct := dc, ex := de } (n + 1)) h0 fun m σ3 L3 e q => by
      have e' : n = m := Nat.succ.inj e
      subst e'
      exact ih q
    unfold whGo
    unfold brT at this
    exact this
/-! comprehensions -/
def stepLc (g : LTG) (tt : LTT) (te : LTE) (σ : LSt) (l : LV) (L : LHp) (K : Option LV → LHp → Prop) : Prop := g l σ L (fun σ2 L2 => tt σ2 L2 (fun b L3 => brT b (fun L3 => te σ2 L3 (fun y L4 => K (some y) L4) (fun _ _ => False)) (fun L3 => K none L3) L3) (fun _ _ => False)) (fun _ _ => False)
def nextLc (D : Addr) (acc : List LV) (stay : LHp → Prop) (go : List LV → LHp → Prop) (o : Option LV) (L : LHp) : Prop := match o with
  | some y => L D = some (.lst acc) ∧ acc.length < sizeLine ∧ stay (lup L D (.lst (acc ++ [y]))) ∧ go (acc ++ [y]) (lup L D (.lst (acc ++ [y])))
  | none => stay L ∧ go acc L
theorem lc_cons {g : LTG} {tt : LTT} {te : LTE} {vs : List Nat} {stay : LHp → Prop} {D : Addr} {fin : List LV → LHp → Prop} {l : LV} {ls acc : List LV} : lcGo g tt te vs σ stay D fin (l :: ls) acc L = stepLc g tt te (lwipe σ vs) l L (nextLc D acc stay (lcGo g tt te vs σ stay D fin ls)) := by
  unfold stepLc brT nextLc
  rfl
theorem lc_ind {g : LTG} {tt : LTT} {te : LTE} {vs : List Nat} {stay : LHp → Prop} {D : Addr} {fin : List LV → LHp → Prop} {items acc : List LV} (Inv : List LV → List LV → LHp → Prop) (h0 : Inv items acc L) (hend : ∀ acc L, Inv [] acc L → fin acc L)
    (hstep : ∀ l ls acc L (K : Option LV → LHp → Prop), Inv (l :: ls) acc L → (∀ y L', L' D = some (.lst acc) → acc.length < sizeLine → stay (lup L' D (.lst (acc ++ [y]))) → Inv ls (acc ++ [y]) (lup L' D (.lst (acc ++ [y]))) → K (some y) L') → (∀ L', stay L' → Inv ls acc L' → K none L') → stepLc g tt te (lwipe σ vs) l L K) : lcGo g tt te vs σ stay D fin items acc L := by
  induction items generalizing acc L with
  | nil => exact hend acc L h0
  | cons l ls ih =>
    rw [lc_cons]
    exact hstep l ls acc L _ h0 (fun y L' h1 h2 h3 h4 => ⟨h1, h2, h3, ih h4⟩) (fun L' h1 h2 => ⟨h1, ih h2⟩)
def goLc (fr : Bool) (g : LTG) (tt : LTT) (te : LTE) (vs : List Nat) (σ : LSt) (Q : QL) (items : List LV) (stay : LHp → Prop) (L : LHp) : Prop := ∀ D, L D = none → stay (lup L D (.lst [])) ∧ lcGo g tt te vs σ stay D (finL fr D Q) items [] (lup L D (.lst []))
@[simp ↓] theorem w_lc {fr : Bool} {it : LTI} {g : LTG} {tt : LTT} {te : LTE} {vs : List Nat} : xLc fr it g tt te vs σ L Q E = it σ L (goLc fr g tt te vs σ Q) E := id rfl
/-- a comprehension that changes nothing -/
theorem lc_pure {g : LTG} {tt : LTT} {te : LTE} {vs : List Nat} {stay : LHp → Prop} {items : List LV} (f : LV → Option LV) (hl : items.length ≤ sizeLine) (hst : ∀ D o, L D = none → stay (lup L D o))
    (hstep : ∀ l ∈ items, ∀ D o (K : Option LV → LHp → Prop), L D = none → K (f l) (lup L D o) → stepLc g tt te (lwipe σ vs) l (lup L D o) K) (h : Q (.lst (items.filterMap f)) L) : goLc true g tt te vs σ Q items stay L := fun D hD => by
  refine ⟨hst D _ hD, ?_⟩
  refine lc_ind (fun ls acc L' => L' = lup L D (.lst acc) ∧ (∀ l ∈ ls, l ∈ items) ∧ acc.length + ls.length ≤ items.length ∧ acc ++ ls.filterMap f = items.filterMap f) ⟨rfl, fun _ h => h, by simp, by simp⟩ ?_ ?_
  · rintro acc L' ⟨rfl, _, _, e⟩
    have e' : acc = items.filterMap f := by simpa using e
    refine ⟨lup_same, ?_⟩
    rw [ler_lup hD, e']
    exact h
  · rintro l ls acc L' K ⟨rfl, hm, hlen, e⟩ hs hn
    refine hstep l (hm l List.mem_cons_self) D _ K hD ?_
    have hm' : ∀ l ∈ ls, l ∈ items := fun l h => hm l (List.mem_cons_of_mem _ h)
    rw [List.length_cons] at hlen
    cases ef : f l with
    | none =>
      rw [List.filterMap_cons_none ef] at e
      exact hn _ (hst D _ hD) ⟨rfl, hm', by omega, e⟩
    | some y =>
      rw [List.filterMap_cons_some ef] at e
      refine hs y _ lup_same (by omega) (by rw [lup_lup]; exact hst D _ hD) ⟨lup_lup, hm', by rw [List.length_append]; simp; omega, by rw [List.append_assoc]; exact e⟩
end
end LK
set_option Elab.async false
set_option linter.all false
set_option maxRecDepth 100000
set_option maxHeartbeats 1000000
/-! Worlds, plainly. -/
namespace LK
open PySem PySem.Spec PyProof.Rows L2
theorem sz {n : Nat} (h : n ≤ 100000) : n ≤ sizeLine := Nat.le_trans h (by decide)
theorem szl {n : Nat} (h : n < 100000) : n < sizeLine := Nat.lt_of_lt_of_le h (by decide)
theorem nodup_le {α : Type} [DecidableEq α] : ∀ {l m : List α}, l.Nodup → (∀ x ∈ l, x ∈ m) → l.length ≤ m.length
  | [], m, _, _ => Nat.zero_le _
  | x :: l, m, h, hs => by
    rw [List.nodup_cons] at h
    have hx := hs x List.mem_cons_self
    have h1 : l.length ≤ (m.erase x).length := nodup_le h.2 fun y hy => (List.mem_erase_of_ne (fun e => h.1 (by rw [← e]; exact hy))).mpr (hs y (List.mem_cons_of_mem _ hy))
    have h2 := List.length_erase_of_mem hx
    have h3 : 0 < m.length := List.length_pos_of_mem hx
    simp only [List.length_cons]
    omega
/-- the kinds from k on up -/
inductive Up (el : List (Option Nat)) : Nat → List Nat → Prop
  | stop {k : Nat} : el[k]? = some none → Up el k [k]
  | step {k e : Nat} {l : List Nat} : el[k]? = some (some e) → Up el e l → Up el k (k :: l)
theorem Up.det {el : List (Option Nat)} {k : Nat} {l m : List Nat} (h : Up el k l) (g : Up el k m) : l = m := by
  induction h generalizing m with
  | stop e =>
    cases g with
    | stop _ => rfl
    | step e2 _ => rw [e] at e2; cases e2
  | step e _ ih =>
    cases g with
    | stop e2 => rw [e] at e2; cases e2
    | step e2 g2 =>
      rw [e] at e2
      cases e2
      rw [ih g2]
theorem Up.mem {el : List (Option Nat)} {k : Nat} {l : List Nat} (h : Up el k l) : ∀ x ∈ l, x < el.length ∧ ∃ m, Up el x m ∧ m.length ≤ l.length := by
  induction h with
  | stop e =>
    intro x hx
    have : x = _ := List.mem_singleton.mp hx
    subst this
    exact ⟨(List.getElem?_eq_some_iff.mp e).1, _, .stop e, Nat.le_refl _⟩
  | step e h ih =>
    intro x hx
    rcases List.mem_cons.mp hx with rfl | hx
    · exact ⟨(List.getElem?_eq_some_iff.mp e).1, _, .step e h, Nat.le_refl _⟩
    · obtain ⟨h1, m, h2, h3⟩ := ih x hx
      exact ⟨h1, m, h2, by simp only [List.length_cons]; omega⟩
theorem Up.nodup {el : List (Option Nat)} {k : Nat} {l : List Nat} (h : Up el k l) : l.Nodup := by
  induction h with
  | stop e => simp
  | @step k e' l e h ih =>
    rw [List.nodup_cons]
    refine ⟨fun hx => ?_, ih⟩
    obtain ⟨_, m, h2, h3⟩ := h.mem _ hx
    have := (Up.step e h).det h2
    rw [← this] at h3
    simp only [List.length_cons] at h3
    omega
theorem Up.len {el : List (Option Nat)} {k : Nat} {l : List Nat} (h : Up el k l) : l.length ≤ el.length := by
  have := nodup_le (m := List.range el.length) h.nodup fun x hx => List.mem_range.mpr (h.mem x hx).1
  simpa using this
def upf (el : List (Option Nat)) : Nat → Nat → List Nat
  | 0, _ => []
  | n + 1, k => k :: match el[k]? with
    | some (some e) => upf el n e
    | _ => []
theorem upf_of {el : List (Option Nat)} {k n : Nat} {l : List Nat} (h : Up el k l) (hn : l.length ≤ n) : upf el n k = l := by
  induction h generalizing n with
  | stop e =>
    cases n with
    | zero => cases hn
    | succ n => simp [upf, e]
  | step e h ih =>
    cases n with
    | zero => cases hn
    | succ n => simp [upf, e, ih (Nat.le_of_succ_le_succ hn)]
structure Wd where
  el : List (Option Nat)
  own : List (List (Str × Int))
def Wd.up (w : Wd) (k : Nat) : List Nat := upf w.el w.el.length k
theorem Wd.up_of {w : Wd} {k : Nat} {l : List Nat} (h : Up w.el k l) : w.up k = l := upf_of h h.len
def Wd.dic (w : Wd) (k : Nat) : List (Str × Int) := w.own[k]?.getD []
def Wd.hit (w : Wd) (d : Str) (i : Nat) : Option (Nat × Int) := (vl (w.dic i) d).map fun b => (i, b)
def Wd.fnd (w : Wd) (k : Nat) (d : Str) : Option (Nat × Int) := (w.up k).findSome? (w.hit d)
def Lts : List Str := ["a", "b", "c", "d", "e", "f"]
def Dok (d : List (Str × Int)) : Prop := (d.map (·.1)).Nodup ∧ ∀ p ∈ d, p.1 ∈ Lts ∧ 0 ≤ p.2 ∧ p.2 ≤ 99
structure Wok (w : Wd) : Prop where
  len : w.el.length = w.own.length
  le : w.el.length ≤ 12
  up : ∀ k, k < w.el.length → Up w.el k (w.up k)
  dk : ∀ o ∈ w.own, Dok o
inductive Stp where
  | add (e : Option Int) | put (k : Int) (d : Str) (b : Int) | drop (k : Int) (d : Str) | turn (k : Int) (e : Option Int) | ask (s k : Int)
inductive Er where
  | tooMany | noKind | noDeed | noBody | ring | noSpot
  deriving DecidableEq
def Wd.okK (w : Wd) (k : Int) : Prop := 0 ≤ k ∧ k < w.el.length
instance {w : Wd} {k : Int} : Decidable (w.okK k) := inferInstanceAs (Decidable (_ ∧ _))
def Wd.okE (w : Wd) : Option Int → Prop
  | none => True
  | some k => w.okK k
instance {w : Wd} {e : Option Int} : Decidable (w.okE e) := by
  cases e with
  | none => exact inferInstanceAs (Decidable True)
  | some k => exact inferInstanceAs (Decidable (w.okK k))
def Wd.ring (w : Wd) (k : Int) : Option Int → Prop
  | none => False
  | some e => k.toNat ∈ w.up e.toNat
instance {w : Wd} {k : Int} {e : Option Int} : Decidable (w.ring k e) := by
  cases e with
  | none => exact inferInstanceAs (Decidable False)
  | some k => exact inferInstanceAs (Decidable (_ ∈ _))
def Wd.chk (w : Wd) : Stp → Option Er
  | .add e => if 12 ≤ w.el.length then some .tooMany else if w.okE e then none else some .noKind
  | .put k d b => if w.okK k then if d ∈ Lts then if 0 ≤ b ∧ b ≤ 99 then none else some .noBody else some .noDeed else some .noKind
  | .drop k d => if w.okK k then if d ∈ Lts then if (vl (w.dic k.toNat) d).isSome then none else some .noDeed else some .noDeed else some .noKind
  | .turn k e => if w.okK k then if w.okE e then if w.ring k e then some .ring else none else some .noKind else some .noKind
  | .ask _ _ => none
def Wd.app (w : Wd) : Stp → Wd
  | .add e => ⟨w.el ++ [e.map Int.toNat], w.own ++ [[]]⟩
  | .put k d b => ⟨w.el, w.own.set k.toNat (pl (w.dic k.toNat) d b)⟩
  | .drop k d => ⟨w.el, w.own.set k.toNat (dl (w.dic k.toNat) d)⟩
  | .turn k e => ⟨w.el.set k.toNat (e.map Int.toNat), w.own⟩
  | .ask _ _ => w
def Wd.new : Wd := ⟨[], []⟩
theorem Wok.new : Wok .new := ⟨rfl, Nat.zero_le _, fun k h => absurd h (Nat.not_lt_zero _), fun o h => nomatch h⟩
/-! what a change keeps -/
theorem Up.snoc {el : List (Option Nat)} {x : Option Nat} {k : Nat} {l : List Nat} (h : Up el k l) : Up (el ++ [x]) k l := by
  have ap : ∀ {k : Nat} {o : Option Nat}, el[k]? = some o → (el ++ [x])[k]? = some o := fun {k o} e => by
    rw [List.getElem?_append_left (List.getElem?_eq_some_iff.mp e).1]
    exact e
  induction h with
  | stop e => exact .stop (ap e)
  | step e _ ih => exact .step (ap e) ih
theorem Up.keep {el : List (Option Nat)} {x : Option Nat} {i k : Nat} {l : List Nat} (h : Up el k l) (hi : i ∉ l) : Up (el.set i x) k l := by
  induction h with
  | stop e => exact .stop (by rw [List.getElem?_set_ne (fun z => hi (by rw [z]; simp))]; exact e)
  | step e _ ih => exact .step (by rw [List.getElem?_set_ne (fun z => hi (by rw [z]; simp))]; exact e) (ih fun z => hi (List.mem_cons_of_mem _ z))
theorem Up.turn {el : List (Option Nat)} {x : Option Nat} {i k : Nat} {l li : List Nat} (h : Up el k l) (hi : Up (el.set i x) i li) : ∃ m, Up (el.set i x) k m := by
  by_cases e : k = i
  · exact ⟨li, e ▸ hi⟩
  induction h with
  | stop q => exact ⟨_, .stop (by rw [List.getElem?_set_ne (Ne.symm e)]; exact q)⟩
  | @step k e' l q _ ih =>
    by_cases e2 : e' = i
    · subst e2
      exact ⟨_, .step (by rw [List.getElem?_set_ne (Ne.symm e)]; exact q) hi⟩
    · obtain ⟨m, hm⟩ := ih e2
      exact ⟨_, .step (by rw [List.getElem?_set_ne (Ne.symm e)]; exact q) hm⟩
theorem Dok.put {d : List (Str × Int)} {x : Str} {b : Int} (h : Dok d) (hx : x ∈ Lts) (h0 : 0 ≤ b) (h1 : b ≤ 99) : Dok (pl d x b) := by
  unfold pl
  split
  · refine ⟨?_, ?_⟩
    · have : (d.map fun kv => if kv.1 = x then (kv.1, b) else kv).map (·.1) = d.map (·.1) := by
        rw [List.map_map]
        refine List.map_congr_left fun p _ => ?_
        simp only [Function.comp]
        split <;> rfl
      rw [this]
      exact h.1
    · intro p hp
      obtain ⟨q, hq, e⟩ := List.mem_map.mp hp
      have := h.2 q hq
      split at e
      · rw [← e]
        exact ⟨this.1, h0, h1⟩
      · rw [← e]
        exact this
  · rename_i hn
    refine ⟨?_, ?_⟩
    · rw [List.map_append, List.nodup_append]
      refine ⟨h.1, by simp, ?_⟩
      intro a ha b' hb e
      simp at hb
      subst hb
      obtain ⟨q, hq, e2⟩ := List.mem_map.mp ha
      exact hn (List.any_eq_true.mpr ⟨q, hq, by simp [e2, e]⟩)
    · intro p hp
      rcases List.mem_append.mp hp with hp | hp
      · exact h.2 p hp
      · have : p = (x, b) := List.mem_singleton.mp hp
        rw [this]
        exact ⟨hx, h0, h1⟩
theorem Dok.drop {d : List (Str × Int)} {x : Str} (h : Dok d) : Dok (dl d x) := ⟨by
  unfold dl
  exact List.Sublist.nodup (List.Sublist.map _ List.filter_sublist) h.1, fun p hp => h.2 p (List.mem_filter.mp hp).1⟩
theorem Dok.len {d : List (Str × Int)} (h : Dok d) : d.length ≤ 6 := by
  have := nodup_le (m := Lts) h.1 fun x hx => by
    obtain ⟨p, hp, e⟩ := List.mem_map.mp hx
    rw [← e]
    exact (h.2 p hp).1
  rw [List.length_map] at this
  exact this
theorem Wok.dic {w : Wd} (h : Wok w) (k : Nat) : Dok (w.dic k) := by
  unfold Wd.dic
  cases e : w.own[k]? with
  | none => exact ⟨by simp, fun p hp => nomatch hp⟩
  | some o => exact h.dk o (List.mem_of_getElem? e)
theorem Wok.of_up {w : Wd} (hlen : w.el.length = w.own.length) (hle : w.el.length ≤ 12) (hu : ∀ k, k < w.el.length → ∃ l, Up w.el k l) (hd : ∀ o ∈ w.own, Dok o) : Wok w := ⟨hlen, hle, fun k hk => by
  obtain ⟨l, hl⟩ := hu k hk
  rw [Wd.up_of hl]
  exact hl, hd⟩
theorem okE_up {w : Wd} (h : Wok w) {e : Option Int} (he : w.okE e) {i : Nat} (hi : (e.map Int.toNat) = some i) : i < w.el.length := by
  cases e with
  | none => cases hi
  | some k =>
    have : k.toNat = i := by simpa using hi
    have he' : 0 ≤ k ∧ k < w.el.length := he
    omega
theorem Wok.app {w : Wd} (h : Wok w) {s : Stp} (hs : w.chk s = none) : Wok (w.app s) := by
  cases s with
  | add e =>
    simp only [Wd.chk] at hs
    split at hs
    · cases hs
    split at hs
    case isFalse => cases hs
    rename_i h1 he
    refine .of_up ?_ ?_ ?_ ?_
    · simp [Wd.app, h.len]
    · simp [Wd.app]; omega
    · intro k hk
      simp only [Wd.app, List.length_append, List.length_singleton] at hk ⊢
      by_cases hlt : k < w.el.length
      · exact ⟨_, (h.up k hlt).snoc⟩
      · have ek : k = w.el.length := by omega
        subst ek
        have q : (w.el ++ [e.map Int.toNat])[w.el.length]? = some (e.map Int.toNat) := by simp
        cases e2 : e.map Int.toNat with
        | none => exact ⟨_, .stop (by rw [e2] at q; exact q)⟩
        | some i =>
          rw [e2] at q
          exact ⟨_, .step q ((h.up i (okE_up h he e2)).snoc)⟩
    · intro o ho
      simp only [Wd.app] at ho
      rcases List.mem_append.mp ho with ho | ho
      · exact h.dk o ho
      · have : o = [] := List.mem_singleton.mp ho
        subst this
        exact ⟨by simp, fun p hp => nomatch hp⟩
  | put k d b =>
    simp only [Wd.chk] at hs
    split at hs
    case isFalse => cases hs
    split at hs
    case isFalse => cases hs
    split at hs
    case isFalse => cases hs
    rename_i hk hd hb
    refine .of_up ?_ h.le (fun k hk => ⟨_, h.up k hk⟩) ?_
    · simp [Wd.app, h.len]
    · intro o ho
      simp only [Wd.app] at ho
      rcases List.mem_or_eq_of_mem_set ho with ho | ho
      · exact h.dk o ho
      · rw [ho]
        exact (h.dic _).put hd hb.1 hb.2
  | drop k d =>
    refine .of_up ?_ h.le (fun k hk => ⟨_, h.up k hk⟩) ?_
    · simp [Wd.app, h.len]
    · intro o ho
      simp only [Wd.app] at ho
      rcases List.mem_or_eq_of_mem_set ho with ho | ho
      · exact h.dk o ho
      · rw [ho]
        exact (h.dic _).drop
  | turn k e =>
    simp only [Wd.chk] at hs
    split at hs
    case isFalse => cases hs
    split at hs
    case isFalse => cases hs
    split at hs
    case isTrue => cases hs
    rename_i hk he hr
    have hk' : k.toNat < w.el.length := by
      have : 0 ≤ k ∧ k < w.el.length := hk
      omega
    have hu : ∃ l, Up (w.el.set k.toNat (e.map Int.toNat)) k.toNat l := by
      have q : (w.el.set k.toNat (e.map Int.toNat))[k.toNat]? = some (e.map Int.toNat) := by rw [List.getElem?_set_self hk']
      cases e with
      | none => exact ⟨_, .stop q⟩
      | some i =>
        have hi := okE_up h he (i := i.toNat) rfl
        have hr' : k.toNat ∉ w.up i.toNat := hr
        exact ⟨_, .step q ((h.up _ hi).keep hr')⟩
    refine .of_up ?_ ?_ ?_ h.dk
    · simp [Wd.app, h.len]
    · simp [Wd.app]; exact h.le
    · intro j hj
      simp only [Wd.app, List.length_set] at hj ⊢
      obtain ⟨l, hl⟩ := hu
      exact (h.up j hj).turn hl
  | ask _ _ => exact h
end LK
set_option Elab.async false
set_option linter.all false
set_option maxRecDepth 100000
set_option maxHeartbeats 2000000
/-! The namer of refusals. -/
namespace LK
open PySem PySem.Spec PyProof.Rows L2
theorem dat_bls : ∀ bs : List Bool, datAll (bs.map LV.bl) = some (bs.map PyData.bool)
  | [] => by simp [datAll]
  | b :: bs => by simp [datAll, LV.dat, dat_bls bs]
theorem lay_bls : ∀ bs : List Bool, PyData.canLayAll0 (bs.map PyData.bool) = true ∧ PyData.depthAll (bs.map PyData.bool) = 0
  | [] => by simp [PyData.canLayAll0, PyData.depthAll]
  | b :: bs => by simp [PyData.canLayAll0, PyData.canLay0, PyData.depthAll, PyData.depth, lay_bls bs]
theorem shp_bls (bs : List Bool) : SeqAt.shaped (.list (bs.map PyData.bool)) = true := by
  have h := lay_bls bs
  unfold SeqAt.shaped
  simp [PyData.canLay0, PyData.depth, h.1, h.2]
theorem eqv_bl (a b : Bool) : PyData.eqv (.bool a) (.bool b) = decide (a = b) := by cases a <;> cases b <;> rfl
theorem count_bls {bs : List Bool} {L : LHp} {Q : QL} : lCount (.lst (bs.map LV.bl)) [.bl true] L Q = Q (.int (bs.countP id : Nat)) L := by
  have e : (bs.map PyData.bool).countP (fun z => PyData.eqv z (.bool true)) = bs.countP id := by
    rw [List.countP_map]
    refine List.countP_congr fun b _ => ?_
    simp [eqv_bl]
  refine propext ⟨?_, fun q => ⟨.bool true, bs.map PyData.bool, by simp [LV.dat], by simp [datOf, LV.dat, dat_bls], shp_bls bs, by decide +kernel, by rw [e]; exact q⟩⟩
  rintro ⟨d, ds, h1, h2, _, _, q⟩
  have e1 : d = .bool true := by simpa [LV.dat] using h1.symm
  have e2 : ds = bs.map PyData.bool := by simpa [datOf, LV.dat, dat_bls] using h2.symm
  subst e1 e2
  rw [e] at q
  exact q
theorem index_bls {bs : List Bool} {L : LHp} {Q : QL} {j : Nat} (h : bs[j]? = some true) (h2 : ∀ m, m < j → bs[m]? = some false) (q : Q (.int j) L) : lIndex (.lst (bs.map LV.bl)) [.bl true] L Q :=
  ⟨.bool true, bs.map PyData.bool, j, .bool true, by simp [LV.dat], by simp [datOf, LV.dat, dat_bls], shp_bls bs, by decide +kernel, by rw [List.getElem?_map, h]; rfl, by rw [eqv_bl]; rfl, fun m z hm hz => by
    rw [List.getElem?_map, h2 m hm] at hz
    cases hz
    rw [eqv_bl]; rfl, q⟩
theorem isE_of {K : PySem.W.Frag} {ad : Str → Addr} (F : HotF K ad) {nm y : Str} (hn : nm ∈ ten) (hy : y ∈ ten) {a : Addr} {L : LHp} {Q : QL} : lIsE K (ad nm) a [.ref a, .ref (ad y)] L Q = Q (.bl (decide (nm = y))) L :=
  propext ⟨fun ⟨_, cv, r, h1, h2, h3⟩ => by
    have e : some (Value.ref (ad y)) = some cv := h1
    cases e
    rw [F.kt nm hn y hy] at h2
    cases h2
    exact h3, fun q => ⟨rfl, _, _, rfl, F.kt nm hn y hy, q⟩⟩
theorem isE_ve {K : PySem.W.Frag} {ad : Str → Addr} (F : HotF K ad) {nm : Str} (hn : nm ∈ ten) {a : Addr} {L : LHp} {Q : QL} : lIsE K (ad nm) a [.ref a, .ty "ValueError"] L Q = Q (.bl true) L :=
  propext ⟨fun ⟨_, cv, r, h1, h2, h3⟩ => by
    have e : some (Value.type "ValueError") = some cv := h1
    cases e
    rw [F.ve nm hn] at h2
    cases h2
    exact h3, fun q => ⟨rfl, _, _, rfl, F.ve nm hn, q⟩⟩
theorem nmB_run {cl : List Addr} {is : LC} {a : Addr} {b0 b1 b2 b3 b4 b5 b6 b7 b8 b9 : Bool} {c0 c1 c2 c3 c4 c5 c6 c7 c8 c9 : Addr} (hc : cl = [c0, c1, c2, c3, c4, c5, c6, c7, c8, c9])
    (h : ∀ L Q, is [.ref a, .ref c0] L Q = Q (.bl b0) L ∧ is [.ref a, .ref c1] L Q = Q (.bl b1) L ∧ is [.ref a, .ref c2] L Q = Q (.bl b2) L ∧ is [.ref a, .ref c3] L Q = Q (.bl b3) L ∧ is [.ref a, .ref c4] L Q = Q (.bl b4) L ∧ is [.ref a, .ref c5] L Q = Q (.bl b5) L ∧ is [.ref a, .ref c6] L Q = Q (.bl b6) L ∧ is [.ref a, .ref c7] L Q = Q (.bl b7) L ∧ is [.ref a, .ref c8] L Q = Q (.bl b8) L ∧ is [.ref a, .ref c9] L Q = Q (.bl b9) L)
    (hv : ∀ L Q, is [.ref a, .ty "ValueError"] L Q = Q (.bl true) L) (hcnt : [b0, b1, b2, b3, b4, b5, b6, b7, b8, b9].countP id = 1) {j : Nat} {nm : Str} (hj : [b0, b1, b2, b3, b4, b5, b6, b7, b8, b9][j]? = some true) (hj2 : ∀ m, m < j → [b0, b1, b2, b3, b4, b5, b6, b7, b8, b9][m]? = some false) (hn : ten[j]? = some nm)
    {L : LHp} {Q : QL} {E : XL} (q : Q (.str nm) L) : nmB cl is { nx := fun _ _ => False, rt := Q, bk := fun _ _ => False, ct := fun _ _ => False, ex := E } [some (.ref a), none, none] L := by
  subst hc
  have e0 := fun L Q => (h L Q).1
  have e1 := fun L Q => (h L Q).2.1
  have e2 := fun L Q => (h L Q).2.2.1
  have e3 := fun L Q => (h L Q).2.2.2.1
  have e4 := fun L Q => (h L Q).2.2.2.2.1
  have e5 := fun L Q => (h L Q).2.2.2.2.2.1
  have e6 := fun L Q => (h L Q).2.2.2.2.2.2.1
  have e7 := fun L Q => (h L Q).2.2.2.2.2.2.2.1
  have e8 := fun L Q => (h L Q).2.2.2.2.2.2.2.2.1
  have e9 := fun L Q => (h L Q).2.2.2.2.2.2.2.2.2
  have sc : ∀ k : Nat, k ≤ 100 → (k ≤ sizeLine) = True := fun k hk => propext ⟨fun _ => trivial, fun _ => sz (by omega)⟩
  unfold nmB
  simp only [w_seq, w_asg, w_lst, w_cons, w_nil, w_cb, w_var, w_c, List.getElem?_cons_zero, List.getElem?_cons_succ, Option.getD_some, e0, e1, e2, e3, e4, e5, e6, e7, e8, e9, List.length_cons, List.length_nil, w_newT, w_nm, List.set_cons_zero, List.set_cons_succ, w_bin]
  refine ⟨sz (show 4 ≤ 100000 by decide), sz (show 4 ≤ 100000 by decide), ?_⟩
  have cat : ∀ (ls ms : List LV) (Q : QL), ls.length + ms.length ≤ 1000 → lCat true (.lst ls) (.lst ms) L Q = Q (.lst (ls ++ ms)) L := fun ls ms Q h => by
    unfold lCat
    simp only [lstOf]
    exact propext ⟨fun z => z.2, fun z => ⟨sz (by omega), z⟩⟩
  rw [cat _ _ _ (by simp)]
  simp only [List.cons_append, List.nil_append]
  refine ⟨sz (show 2 ≤ 100000 by decide), ?_⟩
  rw [cat _ _ _ (by simp)]
  simp only [List.cons_append, List.nil_append]
  refine ⟨sz (show 10 ≤ 100000 by decide), ?_⟩
  simp only [w_ret, w_ife, w_andT, w_test, w_bin, w_mt, w_var, w_cons, w_nil, w_c, w_cb, List.getElem?_cons_zero, List.getElem?_cons_succ, tyL_l, beq_self_eq_true, true_and, hv]
  have em : [LV.bl b0, .bl b1, .bl b2, .bl b3, .bl b4, .bl b5, .bl b6, .bl b7, .bl b8, .bl b9] = [b0, b1, b2, b3, b4, b5, b6, b7, b8, b9].map LV.bl := rfl
  rw [em, count_bls, hcnt]
  have e11 : decide (((1 : Nat) : Int) = 1) = true := by decide
  simp only [o_eq_i, bne_ff, e11, brB_bl, brT_t]
  refine index_bls hj hj2 ?_
  have ex : L2.atI [LV.str "TooMany", .str "NoKind", .str "NoDeed", .str "NoBody", .str "Ring", .str "BadSpots", .str "BadWide", .str "BadRule", .str "NoSpot", .str "BadText"] (j : Int) = some (.str nm) := atI_nat (by
    rw [show [LV.str "TooMany", .str "NoKind", .str "NoDeed", .str "NoBody", .str "Ring", .str "BadSpots", .str "BadWide", .str "BadRule", .str "NoSpot", .str "BadText"] = ten.map LV.str from rfl, List.getElem?_map, hn]
    rfl)
  rw [ix_l, ex]
  exact q
theorem nmB_sem {K : PySem.W.Frag} {ad : Str → Addr} (F : HotF K ad) {nm : Str} (hn : nm ∈ ten) {a : Addr} {L : LHp} {Q : QL} {E : XL} (q : Q (.str nm) L) : nmB (ten.map ad) (lIsE K (ad nm) a) { nx := fun _ _ => False, rt := Q, bk := fun _ _ => False, ct := fun _ _ => False, ex := E } [some (.ref a), none, none] L := by
  have go := fun (y : Str) (hy : y ∈ ten) (L : LHp) (Q : QL) => isE_of F hn hy (a := a) (L := L) (Q := Q)
  have all := fun (L : LHp) (Q : QL) => (⟨go "TooMany" (by decide +kernel) L Q, go "NoKind" (by decide +kernel) L Q, go "NoDeed" (by decide +kernel) L Q, go "NoBody" (by decide +kernel) L Q, go "Ring" (by decide +kernel) L Q, go "BadSpots" (by decide +kernel) L Q, go "BadWide" (by decide +kernel) L Q, go "BadRule" (by decide +kernel) L Q, go "NoSpot" (by decide +kernel) L Q, go "BadText" (by decide +kernel) L Q⟩ : _ ∧ _ ∧ _ ∧ _ ∧ _ ∧ _ ∧ _ ∧ _ ∧ _ ∧ _)
  have ex : ∃ j : Nat, [decide (nm = "TooMany"), decide (nm = "NoKind"), decide (nm = "NoDeed"), decide (nm = "NoBody"), decide (nm = "Ring"), decide (nm = "BadSpots"), decide (nm = "BadWide"), decide (nm = "BadRule"), decide (nm = "NoSpot"), decide (nm = "BadText")].countP id = 1 ∧ [decide (nm = "TooMany"), decide (nm = "NoKind"), decide (nm = "NoDeed"), decide (nm = "NoBody"), decide (nm = "Ring"), decide (nm = "BadSpots"), decide (nm = "BadWide"), decide (nm = "BadRule"), decide (nm = "NoSpot"), decide (nm = "BadText")][j]? = some true ∧ (∀ m : Nat, m < j → [decide (nm = "TooMany"), decide (nm = "NoKind"), decide (nm = "NoDeed"), decide (nm = "NoBody"), decide (nm = "Ring"), decide (nm = "BadSpots"), decide (nm = "BadWide"), decide (nm = "BadRule"), decide (nm = "NoSpot"), decide (nm = "BadText")][m]? = some false) ∧ ten[j]? = some nm := by
    have key : ∀ nm ∈ ten, (List.range 10).any (fun j => decide ((ten.map fun y => decide (nm = y)).countP id = 1) && (decide ((ten.map fun y => decide (nm = y))[j]? = some true) && ((List.range j).all (fun m => decide ((ten.map fun y => decide (nm = y))[m]? = some false)) && decide (ten[j]? = some nm)))) = true := by decide +kernel
    obtain ⟨j, _, h⟩ := List.any_eq_true.mp (key nm hn)
    obtain ⟨h1, h⟩ := andB h
    obtain ⟨h2, h⟩ := andB h
    obtain ⟨h3, h4⟩ := andB h
    refine ⟨j, of_decide_eq_true h1, of_decide_eq_true h2, fun m hm => ?_, of_decide_eq_true h4⟩
    rw [List.all_eq_true] at h3
    exact of_decide_eq_true (h3 m (List.mem_range.mpr hm))
  obtain ⟨j, h1, h2, h3, h4⟩ := ex
  exact nmB_run (cl := ten.map ad) rfl all (fun L Q => isE_ve F hn) h1 h2 h3 h4 q
end LK
set_option Elab.async false
set_option linter.all false
set_option maxRecDepth 100000
set_option maxHeartbeats 1000000
/-! Trees as data: ==, in. -/
namespace LK
open PySem PySem.Spec PyProof.Rows L2
mutual
def LV.tre (bo : Bool) : LV → Nat → Bool
  | .non, _ => true
  | .int _, _ => true
  | .bl _, _ => bo
  | .str x, _ => PyData.strOk x
  | .tup ls, n => decide (0 < n) && treAll bo ls (n - 1)
  | .lst ls, n => decide (0 < n) && treAll bo ls (n - 1)
  | .ref _, _ => false
  | .ty _, _ => false
  | .wl _, _ => false
  | .wt _, _ => false
def treAll (bo : Bool) : List LV → Nat → Bool
  | [], _ => true
  | l :: ls, n => l.tre bo n && treAll bo ls n
end
theorem treAll_iff {bo : Bool} {n : Nat} : ∀ {ls : List LV}, treAll bo ls n = true ↔ ∀ l ∈ ls, l.tre bo n = true
  | [] => by simp [treAll]
  | l :: ls => by simp [treAll, treAll_iff (ls := ls)]
mutual
theorem tre_dat {bo : Bool} : ∀ (l : LV) (n : Nat), l.tre bo n = true → ∃ d, l.dat = some d ∧ d.canLay0 = true ∧ d.depth ≤ n
  | .non, n, h => ⟨.none, by simp [LV.dat], rfl, Nat.zero_le _⟩
  | .int i, n, h => ⟨.int i, by simp [LV.dat], rfl, Nat.zero_le _⟩
  | .bl b, n, h => ⟨.bool b, by simp [LV.dat], rfl, Nat.zero_le _⟩
  | .str x, n, h => ⟨.str x, by simp [LV.dat], by simpa [PyData.canLay0, LV.tre] using h, Nat.zero_le _⟩
  | .tup ls, n, h => by
    simp only [LV.tre, Bool.and_eq_true, decide_eq_true_eq] at h
    obtain ⟨ds, h1, h2, h3⟩ := treAll_dat ls (n - 1) h.2
    exact ⟨.tuple ds, by simp [LV.dat, h1], by simpa [PyData.canLay0] using h2, by simp only [PyData.depth]; omega⟩
  | .lst ls, n, h => by
    simp only [LV.tre, Bool.and_eq_true, decide_eq_true_eq] at h
    obtain ⟨ds, h1, h2, h3⟩ := treAll_dat ls (n - 1) h.2
    exact ⟨.list ds, by simp [LV.dat, h1], by simpa [PyData.canLay0] using h2, by simp only [PyData.depth]; omega⟩
  | .ref _, n, h => by simp [LV.tre] at h
  | .ty _, n, h => by simp [LV.tre] at h
  | .wl _, n, h => by simp [LV.tre] at h
  | .wt _, n, h => by simp [LV.tre] at h
theorem treAll_dat {bo : Bool} : ∀ (ls : List LV) (n : Nat), treAll bo ls n = true → ∃ ds, datAll ls = some ds ∧ PyData.canLayAll0 ds = true ∧ PyData.depthAll ds ≤ n
  | [], n, h => ⟨[], by simp [datAll], by simp [PyData.canLayAll0], by simp [PyData.depthAll]⟩
  | l :: ls, n, h => by
    simp only [treAll, Bool.and_eq_true] at h
    obtain ⟨d, h1, h2, h3⟩ := tre_dat l n h.1
    obtain ⟨ds, g1, g2, g3⟩ := treAll_dat ls n h.2
    exact ⟨d :: ds, by simp [datAll, h1, g1], by simp [PyData.canLayAll0, h2, g2], by simp only [PyData.depthAll]; omega⟩
end
mutual
theorem tre_eqv : ∀ (a b : LV) (n m : Nat) (d e : PyData), a.tre false n = true → b.tre false m = true → a.dat = some d → b.dat = some e → (PyData.eqv d e = true ↔ a = b)
  | a, .bl _, n, m, d, e, _, h, _, _ => by simp [LV.tre] at h
  | a, .ref _, n, m, d, e, _, h, _, _ => by simp [LV.tre] at h
  | a, .ty _, n, m, d, e, _, h, _, _ => by simp [LV.tre] at h
  | a, .wl _, n, m, d, e, _, h, _, _ => by simp [LV.tre] at h
  | a, .wt _, n, m, d, e, _, h, _, _ => by simp [LV.tre] at h
  | .bl _, b, n, m, d, e, h, _, _, _ => by simp [LV.tre] at h
  | .ref _, b, n, m, d, e, h, _, _, _ => by simp [LV.tre] at h
  | .ty _, b, n, m, d, e, h, _, _, _ => by simp [LV.tre] at h
  | .wl _, b, n, m, d, e, h, _, _, _ => by simp [LV.tre] at h
  | .wt _, b, n, m, d, e, h, _, _, _ => by simp [LV.tre] at h
  | .non, b, n, m, d, e, h1, h2, h3, h4 => by
    have e1 : PyData.none = d := by simpa [LV.dat] using h3
    subst e1
    cases b <;> simp [LV.tre, LV.dat] at h2 h4
    case non => subst h4; simp [PyData.eqv]
    case int => subst h4; simp [PyData.eqv]
    case str => subst h4; simp [PyData.eqv]
    case tup => obtain ⟨x, _, rfl⟩ := h4; simp [PyData.eqv]
    case lst => obtain ⟨x, _, rfl⟩ := h4; simp [PyData.eqv]
  | .int i, b, n, m, d, e, h1, h2, h3, h4 => by
    have e1 : PyData.int i = d := by simpa [LV.dat] using h3
    subst e1
    cases b <;> simp [LV.tre, LV.dat] at h2 h4
    case non => subst h4; simp [PyData.eqv]
    case int => subst h4; simp [PyData.eqv]
    case str => subst h4; simp [PyData.eqv]
    case tup => obtain ⟨x, _, rfl⟩ := h4; simp [PyData.eqv]
    case lst => obtain ⟨x, _, rfl⟩ := h4; simp [PyData.eqv]
  | .str i, b, n, m, d, e, h1, h2, h3, h4 => by
    have e1 : PyData.str i = d := by simpa [LV.dat] using h3
    subst e1
    cases b <;> simp [LV.tre, LV.dat] at h2 h4
    case non => subst h4; simp [PyData.eqv]
    case int => subst h4; simp [PyData.eqv]
    case str => subst h4; simp [PyData.eqv]
    case tup => obtain ⟨x, _, rfl⟩ := h4; simp [PyData.eqv]
    case lst => obtain ⟨x, _, rfl⟩ := h4; simp [PyData.eqv]
  | .tup ls, b, n, m, d, e, h1, h2, h3, h4 => by
    obtain ⟨ds, q, e1⟩ := Option.map_eq_some_iff.mp (show (datAll ls).map PyData.tuple = some d by simpa [LV.dat] using h3)
    subst e1
    simp only [LV.tre, Bool.and_eq_true, decide_eq_true_eq] at h1
    cases b <;> simp [LV.tre, LV.dat] at h2 h4
    case non => subst h4; simp [PyData.eqv]
    case int => subst h4; simp [PyData.eqv]
    case str => subst h4; simp [PyData.eqv]
    case tup =>
      obtain ⟨x, qx, rfl⟩ := h4
      rw [PyData.eqv, treAll_eqv ls _ _ _ ds x h1.2 h2.2 q qx]
      simp
    case lst => obtain ⟨x, _, rfl⟩ := h4; simp [PyData.eqv]
  | .lst ls, b, n, m, d, e, h1, h2, h3, h4 => by
    obtain ⟨ds, q, e1⟩ := Option.map_eq_some_iff.mp (show (datAll ls).map PyData.list = some d by simpa [LV.dat] using h3)
    subst e1
    simp only [LV.tre, Bool.and_eq_true, decide_eq_true_eq] at h1
    cases b <;> simp [LV.tre, LV.dat] at h2 h4
    case non => subst h4; simp [PyData.eqv]
    case int => subst h4; simp [PyData.eqv]
    case str => subst h4; simp [PyData.eqv]
    case lst =>
      obtain ⟨x, qx, rfl⟩ := h4
      rw [PyData.eqv, treAll_eqv ls _ _ _ ds x h1.2 h2.2 q qx]
      simp
    case tup => obtain ⟨x, _, rfl⟩ := h4; simp [PyData.eqv]
theorem treAll_eqv : ∀ (as bs : List LV) (n m : Nat) (ds es : List PyData), treAll false as n = true → treAll false bs m = true → datAll as = some ds → datAll bs = some es → (PyData.eqvAll ds es = true ↔ as = bs)
  | [], bs, n, m, ds, es, h1, h2, h3, h4 => by
    have e1 : [] = ds := by simpa [datAll] using h3
    subst e1
    cases bs with
    | nil =>
      have e2 : [] = es := by simpa [datAll] using h4
      subst e2
      simp [PyData.eqvAll]
    | cons b bs =>
      simp only [treAll, Bool.and_eq_true] at h2
      obtain ⟨d, g1, _⟩ := tre_dat b m h2.1
      obtain ⟨dd, g2, _⟩ := treAll_dat bs m h2.2
      simp [datAll, g1, g2] at h4
      subst h4
      simp [PyData.eqvAll]
  | a :: as, bs, n, m, ds, es, h1, h2, h3, h4 => by
    simp only [treAll, Bool.and_eq_true] at h1
    obtain ⟨d, g1, _⟩ := tre_dat a n h1.1
    obtain ⟨dd, g2, _⟩ := treAll_dat as n h1.2
    simp [datAll, g1, g2] at h3
    subst h3
    cases bs with
    | nil =>
      have e2 : [] = es := by simpa [datAll] using h4
      subst e2
      simp [PyData.eqvAll]
    | cons b bs =>
      simp only [treAll, Bool.and_eq_true] at h2
      obtain ⟨e, k1, _⟩ := tre_dat b m h2.1
      obtain ⟨ee, k2, _⟩ := treAll_dat bs m h2.2
      simp [datAll, k1, k2] at h4
      subst h4
      rw [PyData.eqvAll, Bool.and_eq_true, tre_eqv a b n m d e h1.1 h2.1 g1 k1, treAll_eqv as bs n m dd ee h1.2 h2.2 g2 k2]
      simp
end
theorem tre_of {bo : Bool} {l : LV} {n : Nat} (h : l.tre bo n = true) {L : LHp} : datOf L l = l.dat := by
  cases l <;> first | rfl | simp [LV.tre] at h
theorem tre_shaped {d : PyData} {n : Nat} (h : d.canLay0 = true) (h2 : d.depth ≤ n) (hn : n ≤ 64) : SeqAt.shaped d = true := by
  unfold SeqAt.shaped
  rw [h, decide_eq_true (Nat.le_trans h2 hn)]
  rfl
section
variable {L : LHp} {Q : QL} {a b : LV} {n m : Nat}
theorem o_eq_tree {ng k : Bool} (ha : a.tre false n = true) (hb : b.tre false m = true) (hn : n ≤ 64) (hm : m ≤ 64) (hk : k = true ↔ a = b) (h : Q (.bl (ng != k)) L) : lEq ng a b L Q := by
  obtain ⟨d, d1, d2, d3⟩ := tre_dat a n ha
  obtain ⟨e, e1, e2, e3⟩ := tre_dat b m hb
  have key := tre_eqv a b n m d e ha hb d1 e1
  have hd := tre_of ha (L := L)
  have he := tre_of hb (L := L)
  have kk : ∀ p : Prop, ∀ [Decidable p], (p ↔ a = b) → Q (.bl (ng != decide p)) L := fun p _ hp => by
    have : decide p = k := by
      cases k with
      | true => exact decide_eq_true (hp.mpr (hk.mp rfl))
      | false => exact decide_eq_false fun z => Bool.noConfusion (hk.mpr (hp.mp z))
    rw [this]
    exact h
  unfold lEq
  split
  · exact kk _ (by simp)
  · exact kk _ (by simp)
  · exact kk _ (by simp)
  · have : k = false := Bool.eq_false_iff.mpr fun z => nomatch (hk.mp z)
    rw [this] at h
    simpa using h
  · have : k = false := Bool.eq_false_iff.mpr fun z => nomatch (hk.mp z)
    rw [this] at h
    simpa using h
  · refine ⟨d, e, hd.trans d1, he.trans e1, tre_shaped d2 d3 hn, tre_shaped e2 e3 hm, ?_⟩
    have : PyData.eqv d e = k := by
      cases k with
      | true => exact key.mpr (hk.mp rfl)
      | false => exact Bool.eq_false_iff.mpr fun z => Bool.noConfusion (hk.mpr (key.mp z))
    rw [this]
    exact h
theorem o_eq_same {ng : Bool} (ha : a.tre true n = true) (hn : n ≤ 64) (h : Q (.bl (!ng)) L) : lEq ng a a L Q := by
  obtain ⟨d, d1, d2, d3⟩ := tre_dat a n ha
  have hd := tre_of ha (L := L)
  have e1 : (ng != true) = !ng := by cases ng <;> rfl
  have dd : ∃ d e, datOf L a = some d ∧ datOf L a = some e ∧ SeqAt.shaped d = true ∧ SeqAt.shaped e = true ∧ Q (.bl (ng != PyData.eqv d e)) L := by
    refine ⟨d, d, hd.trans d1, hd.trans d1, tre_shaped d2 d3 hn, tre_shaped d2 d3 hn, ?_⟩
    rw [SeqAt.eqv_refl d d2, e1]
    exact h
  cases a with
  | str x => simpa [lEq, e1] using h
  | int x => simpa [lEq, e1] using h
  | bl x => simpa [lEq, e1] using h
  | _ => exact dd
theorem any_eqv : ∀ {ls : List LV} {ds : List PyData} {d : PyData}, treAll false ls n = true → a.tre false m = true → datAll ls = some ds → a.dat = some d → (ds.any (fun z => PyData.eqv z d) = true ↔ a ∈ ls)
  | [], ds, d, h1, h2, h3, h4 => by
    have e1 : [] = ds := by simpa [datAll] using h3
    subst e1
    simp
  | l :: ls, ds, d, h1, h2, h3, h4 => by
    simp only [treAll, Bool.and_eq_true] at h1
    obtain ⟨e, g1, _⟩ := tre_dat l n h1.1
    obtain ⟨es, g2, _⟩ := treAll_dat ls n h1.2
    simp [datAll, g1, g2] at h3
    subst h3
    rw [List.any_cons, Bool.or_eq_true, tre_eqv l a n m e d h1.1 h2 g1 h4, any_eqv h1.2 h2 g2 h4, List.mem_cons]
    exact ⟨fun z => z.imp Eq.symm id, fun z => z.imp Eq.symm id⟩
theorem in_lst {ng k : Bool} {ls : List LV} (ha : a.tre false n = true) (hb : treAll false ls m = true) (hn : n ≤ 64) (hm : m < 64) (hk : k = true ↔ a ∈ ls) (h : Q (.bl (ng != k)) L) : lIn ng a (.lst ls) L Q := by
  obtain ⟨d, d1, d2, d3⟩ := tre_dat a n ha
  obtain ⟨es, e1, e2, e3⟩ := treAll_dat ls m hb
  have key := any_eqv hb ha e1 d1
  refine ⟨d, es, (tre_of ha).trans d1, e1, tre_shaped d2 d3 hn, tre_shaped (n := m + 1) (by simpa [PyData.canLay0] using e2) (by simp only [PyData.depth]; omega) hm, ?_⟩
  have : es.any (fun z => PyData.eqv z d) = k := by
    cases k with
    | true => exact key.mpr (hk.mp rfl)
    | false => exact Bool.eq_false_iff.mpr fun z => Bool.noConfusion (hk.mpr (key.mp z))
  rw [this]
  exact h
end
end LK
set_option Elab.async false
set_option linter.all false
set_option maxRecDepth 100000
set_option maxHeartbeats 1000000
/-! World: what its methods do. -/
namespace LK
open PySem PySem.Spec PyProof.Rows L2
def encE : Option Nat → LV
  | none => .non
  | some e => .int e
def encD (d : List (Str × Int)) : List (Key × LV) := d.map fun p => (Sum.inr p.1, LV.int p.2)
def Frame (S : List Addr) (L L' : LHp) : Prop := ∀ x, x ∉ S → L x ≠ none → L' x = L x
def Grow (S S' : List Addr) (L : LHp) : Prop := ∀ x, x ∈ S' → x ∈ S ∨ L x = none
/-- a world with its parts: what stands at the root, at elders, at own -/
structure IsWd (L : LHp) (w : Wd) (le lo : Addr) (ds : List Addr) : Prop where
  el : L le = some (.lst (w.el.map encE))
  ow : L lo = some (.lst (ds.map LV.ref))
  nd : (le :: lo :: ds).Nodup
  len : ds.length = w.own.length
  len2 : w.el.length = w.own.length
  at_ : ∀ (i : Nat) (d : Addr) (o : List (Str × Int)), ds[i]? = some d → w.own[i]? = some o → L d = some (.dct (encD o))
def rtW (G : GA) (le lo : Addr) : LO := .ins G.cW [("elders", .ref le), ("own", .ref lo)]
variable {G : GA} {L : LHp} {a le lo : Addr} {ds : List Addr} {w : Wd} {Q : QL} {E : XL} {n : Nat}
theorem fld_el (h : L a = some (rtW G le lo)) : brF G.cW "elders" (.ref a) Q L = Q (.ref le) L := brF_ref h (by rfl)
theorem fld_ow (h : L a = some (rtW G le lo)) : brF G.cW "own" (.ref a) Q L = Q (.ref lo) L := brF_ref h (by rfl)
def encK (k : Nat) : LV := .int k
def encO : Option Int → LV
  | none => .non
  | some e => .int e
theorem encO_E {e : Option Int} (h : ∀ k, e = some k → 0 ≤ k) : encE (e.map Int.toNat) = encO e := by
  cases e with
  | none => rfl
  | some k =>
    have := h k rfl
    show LV.int ((k.toNat : Nat) : Int) = .int k
    rw [Int.toNat_of_nonneg this]
theorem exW {E : XL} {C : Addr} (h : E ⟨C, none⟩ L) : exA E ⟨C, none⟩ L := ex_same h
theorem retS {v : LV} (h : Q v L) : retA Q v L := ret_same h
theorem str_one {z : Str} (h : z.length = 1) : ∃ c, z = ⟨#[c]⟩ := by
  obtain ⟨cs⟩ := z
  have h' : cs.size = 1 := h
  match cs, h' with
  | ⟨[c]⟩, _ => exact ⟨c, rfl⟩
theorem lts_mem {c : _} : ((⟨#[c]⟩ : Str) ∈ Lts) ↔ c ∈ ("abcdef" : Str).cps.toList := by
  have e : ("abcdef" : Str).cps.toList = [97, 98, 99, 100, 101, 102] := by decide +kernel
  have e2 : Lts = [⟨#[97]⟩, ⟨#[98]⟩, ⟨#[99]⟩, ⟨#[100]⟩, ⟨#[101]⟩, ⟨#[102]⟩] := by decide +kernel
  rw [e, e2]
  simp
theorem lts_len {z : Str} (h : z ∈ Lts) : z.length = 1 := by
  have e2 : Lts = [⟨#[97]⟩, ⟨#[98]⟩, ⟨#[99]⟩, ⟨#[100]⟩, ⟨#[101]⟩, ⟨#[102]⟩] := by decide +kernel
  rw [e2] at h
  simp at h
  rcases h with rfl | rfl | rfl | rfl | rfl | rfl <;> rfl
theorem above_s {k : Nat} {l : List Nat} (hn : 1 ≤ n) (ha : L a = some (rtW G le lo)) (hW : IsWd L w le lo ds) (hu : Up w.el k l) (hl : l.length ≤ 100) (h : Q (.lst (l.map encK)) L) : cwk G n .World_above [.ref a, .int k] L Q E := by
  obtain ⟨n, rfl⟩ := Nat.exists_eq_add_of_le' hn
  show bodyC 2 3 (B_World_above G (cwk G n)) _ _ _ _
  refine ⟨rfl, ?_⟩
  unfold B_World_above
  simp
  intro p hp
  have hpe : le ≠ p := fun e => by rw [← e, hW.el] at hp; cases hp
  have hpa : a ≠ p := fun e => by rw [← e, ha] at hp; cases hp
  refine whGo_ind (n := l.length) (fun m σ L' => ∃ (pre : List Nat) (o : Option Nat), L' = lup L p (.lst (pre.map encK)) ∧ σ = [some (.ref a), some (encE o), some (.ref p)] ∧
    ((o = none ∧ pre = l) ∨ ∃ k r, o = some k ∧ Up w.el k r ∧ pre ++ r = l ∧ m = r.length)) ⟨[], some k, rfl, rfl, .inr ⟨k, l, rfl, hu, rfl, rfl⟩⟩ ?_
  rintro m σ L' N ⟨pre, o, rfl, rfl, h1⟩ hN
  have hL : lup L p (.lst (pre.map encK)) p = some (.lst (pre.map encK)) := lup_same
  rcases h1 with ⟨rfl, rfl⟩ | ⟨k, r, rfl, hu, he, hm⟩
  · simp [encE]
    refine ret_frz hL ?_
    rw [ler_lup hp]
    exact h
  · have hlt : pre.length < 100 := by
      have : 0 < r.length := by cases hu <;> simp
      have := congrArg List.length he
      simp at this
      omega
    have hlt2 : (pre.map encK).length < sizeLine := by simp; exact szl (by omega)
    simp [encE]
    simp only [tyL_rl hL, mt_app hL, hlt2, true_and, lup_lup]
    rw [fld_el (le := le) (lo := lo) (by rw [lup_ne hpa]; exact ha), ix_r (ls := w.el.map encE) (by rw [lup_ne hpe]; exact hW.el)]
    cases hu with
    | stop e =>
      rw [atI_nat (l := .non) (by rw [List.getElem?_map, e]; rfl)]
      simp
      exact hN 0 _ _ (by rw [hm]; rfl) ⟨pre ++ [k], none, by simp [encK], rfl, .inl ⟨rfl, he⟩⟩
    | step e hu =>
      rename_i e' r
      rw [atI_nat (l := .int e') (by rw [List.getElem?_map, e]; rfl)]
      simp
      exact hN r.length _ _ (by rw [hm]; rfl) ⟨pre ++ [k], some e', by simp [encK], rfl, .inr ⟨e', r, rfl, hu, by simp [he], rfl⟩⟩

theorem need_kind_s {k : Int} (hn : 1 ≤ n) (ha : L a = some (rtW G le lo)) (hW : IsWd L w le lo ds) (hok : w.okK k → Q .non L) (hno : ¬ w.okK k → E ⟨G.eNoKind, none⟩ L) : cwk G n .World_need_kind [.ref a, .int k] L Q E := by
  obtain ⟨n, rfl⟩ := Nat.exists_eq_add_of_le' hn
  show bodyC 2 2 (B_World_need_kind G (cwk G n)) _ _ _ _
  refine ⟨rfl, ?_⟩
  unfold B_World_need_kind
  have f1 : ∀ Q, brF G.cW "elders" (.ref a) Q L = Q (.ref le) L := fun Q => fld_el ha
  have f2 : ∀ Q, lLen [.ref le] L Q = Q (.int w.el.length) L := fun Q => by
    rw [c_len_r hW.el, List.length_map]
  unfold Wd.okK at hok hno
  by_cases h0 : 0 ≤ k
  · by_cases h1 : k < w.el.length
    · simp [h0, h1, f1, f2]
      exact retS (hok ⟨h0, h1⟩)
    · simp [h0, h1, f1, f2]
      exact exW (hno fun z => h1 z.2)
  · simp [h0, f1, f2]
    exact exW (hno fun z => h0 z.1)
theorem need_elder_s {e : Option Int} (hn : 2 ≤ n) (ha : L a = some (rtW G le lo)) (hW : IsWd L w le lo ds) (hok : w.okE e → Q .non L) (hno : ¬ w.okE e → E ⟨G.eNoKind, none⟩ L) : cwk G n .World_need_elder [.ref a, encO e] L Q E := by
  obtain ⟨n, rfl⟩ := Nat.exists_eq_add_of_le' hn
  show bodyC 2 2 (B_World_need_elder G (cwk G (n + 1))) _ _ _ _
  refine ⟨rfl, ?_⟩
  unfold B_World_need_elder
  cases e with
  | none =>
    simp [encO]
    exact retS (hok trivial)
  | some k =>
    have m1 : ∀ f, brM G.cW "need_kind" (.ref a) f L = f a L := fun f => brM_of ha (by rfl)
    simp [encO, m1]
    exact need_kind_s (by omega) ha hW (fun h => retS (hok h)) fun h => exW (hno h)
theorem need_deed_s {d : Str} (hn : 1 ≤ n) (hl : d.length ≤ sizeLine) (hok : d ∈ Lts → Q .non L) (hno : d ∉ Lts → E ⟨G.eNoDeed, none⟩ L) : cwk G n .need_deed [.str d] L Q E := by
  obtain ⟨n, rfl⟩ := Nat.exists_eq_add_of_le' hn
  show bodyC 1 1 (B_need_deed G (cwk G n)) _ _ _ _
  refine ⟨rfl, ?_⟩
  unfold B_need_deed
  by_cases h1 : d.length = 1
  · obtain ⟨c, rfl⟩ := str_one h1
    by_cases h2 : c ∈ ("abcdef" : Str).cps.toList
    · have h2' : c ∈ ("abcdef" : Str).cps := by simpa using h2
      simp [h1, lIn, h2']
      refine ⟨sz (by decide), ?_⟩
      exact retS (hok (lts_mem.mpr h2))
    · have h2' : c ∉ ("abcdef" : Str).cps := by simpa using h2
      simp [h1, lIn, h2']
      refine ⟨sz (by decide), ?_⟩
      exact exW (hno fun z => h2 (lts_mem.mp z))
  · have h1' : ¬ ((d.length : Int) = 1) := by omega
    simp [h1, h1', hl]
    exact exW (hno fun z => h1 (lts_len z))
theorem vl_encD {o : List (Str × Int)} {x : Str} : vl (encD o) (.inr x) = (vl o x).map LV.int := by
  unfold vl encD
  induction o with
  | nil => rfl
  | cons p o ih =>
    rw [List.map_cons, List.find?_cons, List.find?_cons]
    by_cases e : p.1 = x
    · simp [e]
    · simp [e] at ih ⊢
      exact ih
theorem pl_encD {o : List (Str × Int)} {x : Str} {b : Int} : pl (encD o) (.inr x) (.int b) = encD (pl o x b) := by
  have h1 : (encD o).any (fun kv => decide (kv.1 = Sum.inr x)) = o.any fun kv => decide (kv.1 = x) := by
    simp [encD, List.any_map, Function.comp_def]
  unfold pl
  rw [h1]
  split
  · simp only [encD, List.map_map]
    refine List.map_congr_left fun p _ => ?_
    simp only [Function.comp]
    by_cases e : p.1 = x
    · simp [e]
    · simp [e]
  · simp [encD]
theorem dl_encD {o : List (Str × Int)} {x : Str} : dl (encD o) (.inr x) = encD (dl o x) := by
  simp only [dl, encD, List.filter_map]
  congr 1
  refine List.filter_congr fun p _ => ?_
  simp
end LK
set_option Elab.async false
set_option linter.all false
set_option maxRecDepth 100000
set_option maxHeartbeats 1000000
/-! World: what its methods do. -/
namespace LK
open PySem PySem.Spec PyProof.Rows L2
def encF : Option (Nat × Int) → LV
  | none => .non
  | some p => .tup [.int p.1, .int p.2]
/-- a world at a, all it owns: S -/
def IsW (r : Addr → Addr → LO) (L : LHp) (a : Addr) (w : Wd) (S : List Addr) : Prop := ∃ le lo ds, S = a :: le :: lo :: ds ∧ S.Nodup ∧ L a = some (r le lo) ∧ IsWd L w le lo ds
theorem nodup_ix {α : Type} {l : List α} {x : α} {i j : Nat} (nd : l.Nodup) (h1 : l[i]? = some x) (h2 : l[j]? = some x) : i = j := by
  obtain ⟨a1, e1⟩ := List.getElem?_eq_some_iff.mp h1
  obtain ⟨a2, e2⟩ := List.getElem?_eq_some_iff.mp h2
  have h := List.pairwise_iff_getElem.mp nd
  rcases Nat.lt_trichotomy i j with c | c | c
  · exact absurd (e1.trans e2.symm) (h i j a1 a2 c)
  · exact c
  · exact absurd (e2.trans e1.symm) (h j i a2 a1 c)
section
variable {L L' : LHp} {w : Wd} {le lo a : Addr} {ds S S' : List Addr} {r : Addr → Addr → LO}
theorem IsWd.dict (h : IsWd L w le lo ds) {i : Nat} (hi : i < w.el.length) : ∃ d, ds[i]? = some d ∧ L d = some (.dct (encD (w.dic i))) := by
  have h1 : i < ds.length := by rw [h.len, ← h.len2]; exact hi
  have h2 : i < w.own.length := by rw [← h.len2]; exact hi
  refine ⟨ds[i], List.getElem?_eq_getElem h1, ?_⟩
  have := h.at_ i ds[i] w.own[i] (List.getElem?_eq_getElem h1) (List.getElem?_eq_getElem h2)
  rw [this]
  unfold Wd.dic
  rw [List.getElem?_eq_getElem h2]
  rfl
theorem IsWd.mono (h : IsWd L w le lo ds) (m : ∀ x, x ∈ le :: lo :: ds → L' x = L x) : IsWd L' w le lo ds := ⟨by rw [m _ (by simp)]; exact h.el, by rw [m _ (by simp)]; exact h.ow, h.nd, h.len, h.len2, fun i d o h1 h2 => by
  rw [m _ (by simp [List.mem_of_getElem? h1])]
  exact h.at_ i d o h1 h2⟩
theorem IsW.mono (h : IsW r L a w S) (m : ∀ x, x ∈ S → L' x = L x) : IsW r L' a w S := by
  obtain ⟨le, lo, ds, rfl, nd, ha, hw⟩ := h
  exact ⟨le, lo, ds, rfl, nd, by rw [m _ (by simp)]; exact ha, hw.mono fun x hx => m x (List.mem_cons_of_mem _ hx)⟩
theorem IsWd.sm (h : IsWd L w le lo ds) : ∀ x, x ∈ le :: lo :: ds → L x ≠ none := fun x hx => by
  rcases List.mem_cons.mp hx with rfl | hx
  · rw [h.el]; exact fun z => nomatch z
  rcases List.mem_cons.mp hx with rfl | hx
  · rw [h.ow]; exact fun z => nomatch z
  obtain ⟨i, hi, e⟩ := List.mem_iff_getElem.mp hx
  have h2 : i < w.own.length := by rw [← h.len]; exact hi
  rw [h.at_ i x w.own[i] (by rw [List.getElem?_eq_getElem hi, e]) (List.getElem?_eq_getElem h2)]
  exact fun z => nomatch z
theorem IsW.sm (h : IsW r L a w S) : ∀ x, x ∈ S → L x ≠ none := by
  obtain ⟨le, lo, ds, rfl, nd, ha, hw⟩ := h
  intro x hx
  rcases List.mem_cons.mp hx with rfl | hx
  · rw [ha]; exact fun z => nomatch z
  · exact hw.sm x hx
theorem Frame.refl : Frame S L L := fun _ _ _ => rfl
theorem Frame.lup {p : Addr} {o : LO} (h : p ∈ S ∨ L p = none) : Frame S L (lup L p o) := fun x h1 h2 => lup_ne fun e => by
  subst e
  rcases h with h | h
  · exact h1 h
  · exact h2 h
theorem Frame.trans {L2 : LHp} (f : Frame S L L') (g : Frame S L' L2) (k : ∀ x, x ∉ S → L x ≠ none → L' x ≠ none) : Frame S L L2 := fun x h1 h2 => by rw [g x h1 (k x h1 h2), f x h1 h2]
theorem Frame.keep (f : Frame S L L') : ∀ x, x ∉ S → L x ≠ none → L' x ≠ none := fun x h1 h2 => by rw [f x h1 h2]; exact h2
theorem Frame.tr {L2 : LHp} (f : Frame S L L') (g : Frame S L' L2) : Frame S L L2 := f.trans g f.keep
theorem Frame.wide {T : List Addr} (f : Frame S L L') (h : ∀ x ∈ S, x ∈ T) : Frame T L L' := fun x h1 h2 => f x (fun z => h1 (h x z)) h2
theorem Grow.refl : Grow S S L := fun _ h => .inl h
/-- one kind's bodies are others -/
theorem IsW.own (h : IsW r L a w S) {i : Nat} {d : Addr} {o : List (Str × Int)} {le lo : Addr} {ds : List Addr} (e : S = a :: le :: lo :: ds) (hd : ds[i]? = some d) : IsW r (lup L d (.dct (encD o))) a ⟨w.el, w.own.set i o⟩ S ∧ Frame S L (lup L d (.dct (encD o))) := by
  obtain ⟨le', lo', ds', e', nd, ha, hw⟩ := h
  rw [e] at e'
  have e1 := List.cons.inj e'
  have e2 := List.cons.inj e1.2
  have e3 := List.cons.inj e2.2
  obtain rfl := e2.1
  obtain rfl := e3.1
  obtain rfl := e3.2
  have md : d ∈ ds := List.mem_of_getElem? hd
  rw [e] at nd
  refine ⟨⟨le, lo, ds, e, e ▸ nd, ?_, ?_⟩, Frame.lup (.inl (by rw [e]; simp [md]))⟩
  · rw [lup_ne]
    · exact ha
    · rintro rfl
      simp [md] at nd
  · simp only [List.nodup_cons, List.mem_cons, not_or] at nd
    refine ⟨?_, ?_, hw.nd, by simp [hw.len], by simp [hw.len2], ?_⟩
    · rw [lup_ne]
      · exact hw.el
      · rintro rfl
        exact nd.2.1.2 md
    · rw [lup_ne]
      · exact hw.ow
      · rintro rfl
        exact nd.2.2.1 md
    · intro j d' o' h1 h2
      by_cases ej : i = j
      · subst ej
        rw [hd] at h1
        cases h1
        have hlt : i < w.own.length := by
          have := (List.getElem?_eq_some_iff.mp hd).1
          rw [hw.len] at this
          exact this
        simp only [List.getElem?_set_self hlt] at h2
        cases h2
        exact lup_same
      · simp only [List.getElem?_set_ne ej] at h2
        rw [lup_ne]
        · exact hw.at_ j d' o' h1 h2
        · rintro rfl
          exact ej (nodup_ix nd.2.2.2 hd h1)
/-- one kind's elder is another -/
theorem IsW.eld (h : IsW r L a w S) {i : Nat} {x : Option Nat} {le lo : Addr} {ds : List Addr} (e : S = a :: le :: lo :: ds) : IsW r (lup L le (.lst ((w.el.set i x).map encE))) a ⟨w.el.set i x, w.own⟩ S ∧ Frame S L (lup L le (.lst ((w.el.set i x).map encE))) := by
  obtain ⟨le', lo', ds', e', nd, ha, hw⟩ := h
  rw [e] at e'
  have e1 := List.cons.inj e'
  have e2 := List.cons.inj e1.2
  have e3 := List.cons.inj e2.2
  obtain rfl := e2.1
  obtain rfl := e3.1
  obtain rfl := e3.2
  rw [e] at nd
  refine ⟨⟨le, lo, ds, e, e ▸ nd, ?_, ?_⟩, Frame.lup (.inl (by rw [e]; simp))⟩
  · rw [lup_ne]
    · exact ha
    · rintro rfl
      simp at nd
  · simp only [List.nodup_cons, List.mem_cons, not_or] at nd
    refine ⟨lup_same, ?_, hw.nd, hw.len, by simp [hw.len2], ?_⟩
    · rw [lup_ne]
      · exact hw.ow
      · exact Ne.symm nd.2.1.1
    · intro j d' o' h1 h2
      rw [lup_ne]
      · exact hw.at_ j d' o' h1 h2
      · rintro rfl
        exact nd.2.1.2 (List.mem_of_getElem? h1)
/-- a new kind -/
theorem IsW.add (h : IsW r L a w S) {p : Addr} {x : Option Nat} {le lo : Addr} {ds : List Addr} (e : S = a :: le :: lo :: ds) (hp : L p = none) : IsW r (lup (lup (lup L le (.lst ((w.el ++ [x]).map encE))) p (.dct [])) lo (.lst ((ds ++ [p]).map LV.ref))) a ⟨w.el ++ [x], w.own ++ [[]]⟩ (S ++ [p]) ∧
    Frame S L (lup (lup (lup L le (.lst ((w.el ++ [x]).map encE))) p (.dct [])) lo (.lst ((ds ++ [p]).map LV.ref))) ∧ Grow S (S ++ [p]) L := by
  have hs := h.sm
  obtain ⟨le', lo', ds', e', nd, ha, hw⟩ := h
  rw [e] at e'
  have e1 := List.cons.inj e'
  have e2 := List.cons.inj e1.2
  have e3 := List.cons.inj e2.2
  obtain rfl := e2.1
  obtain rfl := e3.1
  obtain rfl := e3.2
  have hpS : p ∉ S := fun z => hs p z hp
  have nd' : (S ++ [p]).Nodup := by
    rw [List.nodup_append]
    exact ⟨nd, by simp, fun x hx y hy => by
      have : y = p := List.mem_singleton.mp hy
      subst this
      rintro rfl
      exact hpS hx⟩
  have fr : Frame S L (lup (lup (lup L le (.lst ((w.el ++ [x]).map encE))) p (.dct [])) lo (.lst ((ds ++ [p]).map LV.ref))) := fun y h1 h2 => by
    have n1 : y ≠ lo := fun z => h1 (by rw [e, z]; simp)
    have n2 : y ≠ p := fun z => h2 (by rw [z]; exact hp)
    have n3 : y ≠ le := fun z => h1 (by rw [e, z]; simp)
    rw [lup_ne n1, lup_ne n2, lup_ne n3]
  rw [e] at hpS nd
  simp only [List.nodup_cons, List.mem_cons, not_or] at nd hpS
  refine ⟨⟨le, lo, ds ++ [p], by rw [e]; simp, nd', ?_, ?_⟩, fr, fun y hy => ?_⟩
  · rw [lup_ne nd.1.2.1, lup_ne (Ne.symm hpS.1), lup_ne nd.1.1]
    exact ha
  · refine ⟨?_, lup_same, ?_, ?_, ?_, ?_⟩
    · rw [lup_ne nd.2.1.1, lup_ne (Ne.symm hpS.2.1), lup_same]
    · have := e ▸ nd'
      simp only [List.cons_append] at this
      exact (List.nodup_cons.mp this).2
    · simp [hw.len]
    · simp [hw.len2]
    · intro j d' o' h1 h2
      by_cases ej : j < ds.length
      · rw [List.getElem?_append_left ej] at h1
        have h2' : w.own[j]? = some o' := by
          have hlt : j < w.own.length := by rw [← hw.len]; exact ej
          simpa only [List.getElem?_append_left hlt] using h2
        have md := List.mem_of_getElem? h1
        have n1 : d' ≠ lo := by rintro rfl; exact nd.2.2.1 md
        have n2 : d' ≠ p := by rintro rfl; exact hpS.2.2.2 md
        have n3 : d' ≠ le := by rintro rfl; exact nd.2.1.2 md
        rw [lup_ne n1, lup_ne n2, lup_ne n3]
        exact hw.at_ j d' o' h1 h2'
      · have hlen := (List.getElem?_eq_some_iff.mp h1).1
        simp at hlen
        have ej2 : j = ds.length := by omega
        subst ej2
        have e4 : d' = p := by simpa using h1.symm
        subst e4
        have h2' : o' = [] := by
          rw [hw.len] at h2
          simpa using h2.symm
        rw [h2', lup_ne hpS.2.2.1, lup_same]
        rfl
  · rcases List.mem_append.mp hy with hy | hy
    · exact .inl hy
    · have : y = p := List.mem_singleton.mp hy
      exact .inr (this ▸ hp)
end
end LK
set_option Elab.async false
set_option linter.all false
set_option maxRecDepth 100000
set_option maxHeartbeats 1000000
/-! World: what its methods do. -/
namespace LK
open PySem PySem.Spec PyProof.Rows L2
def Er.at (G : GA) : Er → Exn
  | .tooMany => ⟨G.eTooMany, none⟩
  | .noKind => ⟨G.eNoKind, none⟩
  | .noDeed => ⟨G.eNoDeed, none⟩
  | .noBody => ⟨G.eNoBody, none⟩
  | .ring => ⟨G.eRing, none⟩
  | .noSpot => ⟨G.eNoSpot, none⟩
variable {G : GA} {L : LHp} {a le lo : Addr} {ds S : List Addr} {w : Wd} {Q : QL} {E : XL} {n : Nat}
theorem uplen {k : Nat} (hw : Wok w) (hk : k < w.el.length) : (w.up k).length ≤ 100 := by
  have := (hw.up k hk).len
  have := hw.le
  omega
theorem above_w {k : Nat} (hn : 1 ≤ n) (hw : Wok w) (hk : k < w.el.length) (hW : IsW (rtW G) L a w S) (h : Q (.lst ((w.up k).map encK)) L) : cwk G n .World_above [.ref a, .int k] L Q E := by
  obtain ⟨le, lo, ds, rfl, nd, ha, hW⟩ := hW
  exact above_s hn ha hW (hw.up k hk) (uplen hw hk) h
theorem okK_nat {k : Int} (h : w.okK k) : ∃ i : Nat, k = i ∧ i < w.el.length := by
  have h' : 0 ≤ k ∧ k < w.el.length := h
  exact ⟨k.toNat, by omega, by omega⟩
theorem up_s {k : Int} (hn : 2 ≤ n) (hw : Wok w) (hW : IsW (rtW G) L a w S) (hok : w.okK k → Q (.lst ((w.up k.toNat).map encK)) L) (hno : ¬ w.okK k → E ⟨G.eNoKind, none⟩ L) : cwk G n .World_up [.ref a, .int k] L Q E := by
  obtain ⟨n, rfl⟩ := Nat.exists_eq_add_of_le' hn
  show bodyC 2 2 (B_World_up G (cwk G (n + 1))) _ _ _ _
  refine ⟨rfl, ?_⟩
  unfold B_World_up
  have hW' := hW
  obtain ⟨le, lo, ds, rfl, nd, ha, hW⟩ := hW
  have m1 : ∀ f, brM G.cW "need_kind" (.ref a) f L = f a L := fun f => brM_of ha (by rfl)
  have m2 : ∀ f, brM G.cW "above" (.ref a) f L = f a L := fun f => brM_of ha (by rfl)
  simp [m1]
  refine need_kind_s (by omega) ha hW (fun h => ?_) fun h => exW (hno h)
  simp [m2]
  have h2 := hok h
  obtain ⟨i, rfl, hi⟩ := okK_nat h
  exact above_w (by omega) hw hi hW' (retS h2)
theorem found_by_s {k : Nat} {d : Str} (hn : 2 ≤ n) (hw : Wok w) (hk : k < w.el.length) (hW : IsW (rtW G) L a w S) (h : Q (encF (w.fnd k d)) L) : cwk G n .World_found_by [.ref a, .int k, .str d] L Q E := by
  obtain ⟨n, rfl⟩ := Nat.exists_eq_add_of_le' hn
  show bodyC 3 4 (B_World_found_by G (cwk G (n + 1))) _ _ _ _
  refine ⟨rfl, ?_⟩
  unfold B_World_found_by
  have hW' := hW
  obtain ⟨le, lo, ds, rfl, nd, ha, hW⟩ := hW
  have m2 : ∀ f, brM G.cW "above" (.ref a) f L = f a L := fun f => brM_of ha (by rfl)
  have f1 : ∀ Q, brF G.cW "own" (.ref a) Q L = Q (.ref lo) L := fun Q => fld_ow ha
  simp [m2]
  refine above_w (by omega) hw hk hW' ?_
  simp
  refine forGo_ind (fun ls σ L' => L' = L ∧ (∃ o, σ = [some (.ref a), some (.int k), some (.str d), o]) ∧ ∃ r : List Nat, ls = r.map encK ∧ (∀ x ∈ r, x < w.el.length) ∧ r.findSome? (w.hit d) = w.fnd k d) ⟨rfl, ⟨none, rfl⟩, w.up k, rfl, fun x hx => ((hw.up k hk).mem x hx).1, rfl⟩ ?_ ?_
  · rintro σ L' ⟨rfl, ⟨o, rfl⟩, r, hr, _, e⟩
    have : r = [] := by simpa using hr.symm
    subst this
    simp
    rw [← e] at h
    exact retS h
  · rintro l ls σ L' N ⟨rfl, ⟨o, rfl⟩, r, hr, hm, e⟩ hN
    cases r with
    | nil => simp at hr
    | cons i r =>
      simp only [List.map_cons, List.cons.injEq] at hr
      obtain ⟨rfl, rfl⟩ := hr
      have hi := hm i List.mem_cons_self
      obtain ⟨di, hd1, hd2⟩ := hW.dict hi
      have x1 : ∀ Q, lIx (.ref lo) (.int i) L' Q = Q (.ref di) L' := fun Q => by
        rw [ix_r hW.ow, atI_nat (l := .ref di) (by rw [List.getElem?_map, hd1]; rfl)]
        rfl
      have x2 : ∀ Q, lIx (.ref di) (.str d) L' Q = onS ((vl (w.dic i) d).map LV.int) Q L' := fun Q => by
        rw [ix_d hd2, vl_encD]
      have x3 : ∀ ng Q, lIn ng (.str d) (.ref di) L' Q = Q (.bl (ng != (vl (w.dic i) d).isSome)) L' := fun ng Q => by
        rw [in_d hd2, vl_encD, Option.isSome_map]
      rw [List.findSome?_cons] at e
      simp [encK, f1, x1, x2, x3]
      cases q : vl (w.dic i) d with
      | none =>
        have q2 : w.hit d i = none := by simp [Wd.hit, q]
        rw [q2] at e
        simp
        exact hN _ _ ⟨rfl, ⟨_, rfl⟩, r, rfl, fun x hx => hm x (List.mem_cons_of_mem _ hx), e⟩ trivial
      | some b =>
        have q2 : w.hit d i = some (i, b) := by simp [Wd.hit, q]
        rw [q2] at e
        simp [f1, x1, x2, q]
        refine ⟨sz (by decide), ?_⟩
        rw [← e] at h
        exact retS h
theorem find_s {k : Int} {d : Str} (hn : 3 ≤ n) (hw : Wok w) (hl : d.length ≤ sizeLine) (hW : IsW (rtW G) L a w S) (hok : w.okK k → d ∈ Lts → Q (encF (w.fnd k.toNat d)) L) (h1 : ¬ w.okK k → E ⟨G.eNoKind, none⟩ L) (h2 : w.okK k → d ∉ Lts → E ⟨G.eNoDeed, none⟩ L) :
    cwk G n .World_find [.ref a, .int k, .str d] L Q E := by
  obtain ⟨n, rfl⟩ := Nat.exists_eq_add_of_le' hn
  show bodyC 3 3 (B_World_find G (cwk G (n + 2))) _ _ _ _
  refine ⟨rfl, ?_⟩
  unfold B_World_find
  have hW' := hW
  obtain ⟨le, lo, ds, rfl, nd, ha, hW⟩ := hW
  have m1 : ∀ f, brM G.cW "need_kind" (.ref a) f L = f a L := fun f => brM_of ha (by rfl)
  have m2 : ∀ f, brM G.cW "found_by" (.ref a) f L = f a L := fun f => brM_of ha (by rfl)
  simp [m1]
  refine need_kind_s (by omega) ha hW (fun hk => ?_) fun h => exW (h1 h)
  refine need_deed_s (by omega) hl (fun hd => ?_) fun h => exW (h2 hk h)
  simp [m2]
  have h3 := hok hk hd
  obtain ⟨i, rfl, hi⟩ := okK_nat hk
  exact found_by_s (by omega) hw hi hW' (retS h3)
theorem okE_nonneg {e : Option Int} (h : w.okE e) : ∀ k, e = some k → 0 ≤ k := fun k hk => by
  subst hk
  exact h.1
theorem add_s {e : Option Int} (hn : 3 ≤ n) (hw : Wok w) (hW : IsW (rtW G) L a w S) (hok : w.chk (.add e) = none → ∀ L' S', IsW (rtW G) L' a (w.app (.add e)) S' → Frame S L L' → Grow S S' L → (∀ x ∈ S, x ∈ S') → Q (.int w.el.length) L') (hno : ∀ x, w.chk (.add e) = some x → E (x.at G) L) :
    cwk G n .World_add [.ref a, encO e] L Q E := by
  obtain ⟨n, rfl⟩ := Nat.exists_eq_add_of_le' hn
  show bodyC 2 2 (B_World_add G (cwk G (n + 2))) _ _ _ _
  refine ⟨rfl, ?_⟩
  unfold B_World_add
  have hW' := hW
  obtain ⟨le, lo, ds, eS, nd, ha, hW⟩ := hW
  have f1 : ∀ Q, brF G.cW "elders" (.ref a) Q L = Q (.ref le) L := fun Q => fld_el ha
  have f2 : ∀ Q, lLen [.ref le] L Q = Q (.int w.el.length) L := fun Q => by
    rw [c_len_r hW.el, List.length_map]
  have m1 : ∀ f, brM G.cW "need_elder" (.ref a) f L = f a L := fun f => brM_of ha (by rfl)
  by_cases c1 : 12 ≤ w.el.length
  · have c1' : (12 : Int) ≤ (w.el.length : Int) := by omega
    simp [f1, f2, c1']
    exact exW (hno .tooMany (by simp [Wd.chk, c1]))
  · have c1' : ¬ (12 : Int) ≤ (w.el.length : Int) := by omega
    simp [f1, f2, c1', m1]
    refine need_elder_s (by omega) ha hW (fun he => ?_) fun h => exW (hno .noKind (by simp [Wd.chk, c1, h]))
    have hh := hok (by simp [Wd.chk, c1, he])
    simp [f1]
    have t1 := tyL_rl hW.el
    simp [t1, mt_app hW.el]
    refine ⟨szl (by omega), ?_⟩
    have nd1 := nd
    rw [eS] at nd1
    simp only [List.nodup_cons, List.mem_cons, not_or] at nd1
    have enc : w.el.map encE ++ [encO e] = (w.el ++ [e.map Int.toNat]).map encE := by
      rw [List.map_append, List.map_singleton, encO_E (okE_nonneg he)]
    rw [enc]
    have f3 : ∀ Q o, brF G.cW "own" (.ref a) Q (lup L le o) = Q (.ref lo) (lup L le o) := fun Q o => fld_ow (by rw [lup_ne nd1.1.1]; exact ha)
    have t2 : ∀ o, (tyL "list" (lup L le o) (.ref lo) = true) = True := fun o => tyL_rl (by rw [lup_ne (Ne.symm nd1.2.1.1)]; exact hW.ow)
    simp [f3, t2]
    intro p hp
    have hp1 : p ≠ le := by
      rintro rfl
      rw [lup_same] at hp
      cases hp
    have hp2 : L p = none := by
      rw [lup_ne hp1] at hp
      exact hp
    have hp3 : lo ≠ p := fun z => by
      rw [← z, hW.ow] at hp2
      cases hp2
    rw [mt_app (by rw [lup_ne hp3, lup_ne (Ne.symm nd1.2.1.1)]; exact hW.ow)]
    refine ⟨by simp [hW.len, ← hW.len2]; exact szl (by omega), ?_⟩
    have enc2 : ds.map LV.ref ++ [LV.ref p] = (ds ++ [p]).map LV.ref := by simp
    rw [enc2]
    try rw [show w.el.map encE ++ [encE (e.map Int.toNat)] = (w.el ++ [e.map Int.toNat]).map encE by simp]
    obtain ⟨g1, g2, g3⟩ := hW'.add (x := e.map Int.toNat) eS hp2
    have e6 : ((w.el.length : Int) + 1 - 1) = w.el.length := by omega
    obtain ⟨le2, lo2, ds2, eS2, nd2, ha2, hW2⟩ := g1
    have e5 : le2 = le ∧ lo2 = lo := by
      rw [eS] at eS2
      simp at eS2
      exact ⟨eS2.1.symm, eS2.2.1.symm⟩
    obtain ⟨rfl, rfl⟩ := e5
    generalize hL3 : lup (lup (lup L le2 (.lst ((w.el ++ [e.map Int.toNat]).map encE))) p (.dct [])) lo2 (.lst ((ds ++ [p]).map LV.ref)) = L3 at *
    have f4 := fun Q => fld_el (Q := Q) ha2
    have f5 := fun Q => c_len_r (Q := Q) hW2.el
    rw [f4, f5]
    simp
    exact retS (hh _ _ ⟨le2, lo2, ds2, eS2, nd2, ha2, hW2⟩ g2 g3 fun x hx => List.mem_append_left _ hx)
theorem Wok.dlen (hw : Wok w) (k : Nat) : (encD (w.dic k)).length < sizeLine := by
  have := (hw.dic k).len
  simp only [encD, List.length_map]
  exact szl (by omega)
theorem put_s {k : Int} {d : Str} {b : Int} (hn : 2 ≤ n) (hw : Wok w) (hl : d.length ≤ sizeLine) (hW : IsW (rtW G) L a w S) (hok : w.chk (.put k d b) = none → ∀ L', IsW (rtW G) L' a (w.app (.put k d b)) S → Frame S L L' → Q .non L') (hno : ∀ x, w.chk (.put k d b) = some x → E (x.at G) L) :
    cwk G n .World_put [.ref a, .int k, .str d, .int b] L Q E := by
  obtain ⟨n, rfl⟩ := Nat.exists_eq_add_of_le' hn
  show bodyC 4 4 (B_World_put G (cwk G (n + 1))) _ _ _ _
  refine ⟨rfl, ?_⟩
  unfold B_World_put
  have hW' := hW
  obtain ⟨le, lo, ds, eS, nd, ha, hW⟩ := hW
  have m1 : ∀ f, brM G.cW "need_kind" (.ref a) f L = f a L := fun f => brM_of ha (by rfl)
  have f1 : ∀ Q, brF G.cW "own" (.ref a) Q L = Q (.ref lo) L := fun Q => fld_ow ha
  simp [m1]
  refine need_kind_s (by omega) ha hW (fun hk => ?_) fun h => exW (hno .noKind (by simp [Wd.chk, h]))
  refine need_deed_s (by omega) hl (fun hd => ?_) fun h => exW (hno .noDeed (by simp [Wd.chk, hk, h]))
  have done : 0 ≤ b ∧ b ≤ 99 → Q .non L = Q .non L → _ := fun hb _ => hok (by simp [Wd.chk, hk, hd, hb])
  have bad : ¬ (0 ≤ b ∧ b ≤ 99) → E (Er.noBody.at G) L := fun hb => hno .noBody (by simp [Wd.chk, hk, hd, hb])
  by_cases b0 : 0 ≤ b
  · by_cases b1 : b ≤ 99
    · have hh := done ⟨b0, b1⟩ rfl
      simp [b0, b1, f1]
      obtain ⟨i, rfl, hi⟩ := okK_nat hk
      obtain ⟨di, hd1, hd2⟩ := hW.dict hi
      have x1 : ∀ Q, lIx (.ref lo) (.int i) L Q = Q (.ref di) L := fun Q => by
        rw [ix_r hW.ow, atI_nat (l := .ref di) (by rw [List.getElem?_map, hd1]; rfl)]
        rfl
      rw [x1, set_d hd2, pl_encD]
      refine ⟨hw.dlen i, ?_⟩
      obtain ⟨g1, g2⟩ := hW'.own (o := pl (w.dic i) d b) eS hd1
      exact retS (hh _ g1 g2)
    · simp [b0, b1]
      exact exW (bad fun z => b1 z.2)
  · simp [b0]
    exact exW (bad fun z => b0 z.1)
theorem drop_s {k : Int} {d : Str} (hn : 2 ≤ n) (hw : Wok w) (hl : d.length ≤ sizeLine) (hW : IsW (rtW G) L a w S) (hok : w.chk (.drop k d) = none → ∀ L', IsW (rtW G) L' a (w.app (.drop k d)) S → Frame S L L' → Q .non L') (hno : ∀ x, w.chk (.drop k d) = some x → E (x.at G) L) :
    cwk G n .World_drop [.ref a, .int k, .str d] L Q E := by
  obtain ⟨n, rfl⟩ := Nat.exists_eq_add_of_le' hn
  show bodyC 3 3 (B_World_drop G (cwk G (n + 1))) _ _ _ _
  refine ⟨rfl, ?_⟩
  unfold B_World_drop
  have hW' := hW
  obtain ⟨le, lo, ds, eS, nd, ha, hW⟩ := hW
  have m1 : ∀ f, brM G.cW "need_kind" (.ref a) f L = f a L := fun f => brM_of ha (by rfl)
  have f1 : ∀ Q, brF G.cW "own" (.ref a) Q L = Q (.ref lo) L := fun Q => fld_ow ha
  simp [m1]
  refine need_kind_s (by omega) ha hW (fun hk => ?_) fun h => exW (hno .noKind (by simp [Wd.chk, h]))
  refine need_deed_s (by omega) hl (fun hd => ?_) fun h => exW (hno .noDeed (by simp [Wd.chk, hk, h]))
  have ok2 : (vl (w.dic k.toNat) d).isSome = true → w.chk (.drop k d) = none := fun z => by simp [Wd.chk, hk, hd, z]
  have no2 : (vl (w.dic k.toNat) d).isSome = false → E (Er.noDeed.at G) L := fun z => hno .noDeed (by simp [Wd.chk, hk, hd, z])
  obtain ⟨i, rfl, hi⟩ := okK_nat hk
  obtain ⟨di, hd1, hd2⟩ := hW.dict hi
  have x1 : ∀ Q, lIx (.ref lo) (.int i) L Q = Q (.ref di) L := fun Q => by
    rw [ix_r hW.ow, atI_nat (l := .ref di) (by rw [List.getElem?_map, hd1]; rfl)]
    rfl
  have x3 : ∀ ng Q, lIn ng (.str d) (.ref di) L Q = Q (.bl (ng != (vl (w.dic i) d).isSome)) L := fun ng Q => by
    rw [in_d hd2, vl_encD, Option.isSome_map]
  simp only [Int.toNat_natCast] at ok2 no2
  simp [f1, x1, x3]
  cases q : vl (w.dic i) d with
  | none =>
    rw [q] at no2
    simp
    exact exW (no2 rfl)
  | some b =>
    rw [q] at ok2
    have q2 : vl (encD (w.dic i)) (.inr d) = some (.int b) := by rw [vl_encD, q]; rfl
    simp [tyL_rd hd2, f1, x1, lDPop, hd2, lKey, q2, dl_encD]
    obtain ⟨g1, g2⟩ := hW'.own (o := dl (w.dic i) d) eS hd1
    exact retS (hok (ok2 rfl) _ g1 g2)
theorem turn_s {k : Int} {e : Option Int} (hn : 3 ≤ n) (hw : Wok w) (hW : IsW (rtW G) L a w S) (hok : w.chk (.turn k e) = none → ∀ L', IsW (rtW G) L' a (w.app (.turn k e)) S → Frame S L L' → Q .non L') (hno : ∀ x, w.chk (.turn k e) = some x → E (x.at G) L) :
    cwk G n .World_turn [.ref a, .int k, encO e] L Q E := by
  obtain ⟨n, rfl⟩ := Nat.exists_eq_add_of_le' hn
  show bodyC 3 3 (B_World_turn G (cwk G (n + 2))) _ _ _ _
  refine ⟨rfl, ?_⟩
  unfold B_World_turn
  have hW' := hW
  obtain ⟨le, lo, ds, eS, nd, ha, hW⟩ := hW
  have m1 : ∀ f, brM G.cW "need_kind" (.ref a) f L = f a L := fun f => brM_of ha (by rfl)
  have m2 : ∀ f, brM G.cW "need_elder" (.ref a) f L = f a L := fun f => brM_of ha (by rfl)
  have m3 : ∀ f, brM G.cW "above" (.ref a) f L = f a L := fun f => brM_of ha (by rfl)
  have f1 : ∀ Q, brF G.cW "elders" (.ref a) Q L = Q (.ref le) L := fun Q => fld_el ha
  simp [m1]
  refine need_kind_s (by omega) ha hW (fun hk => ?_) fun h => exW (hno .noKind (by simp [Wd.chk, h]))
  simp [m2]
  refine need_elder_s (by omega) ha hW (fun he => ?_) fun h => exW (hno .noKind (by simp [Wd.chk, hk, h]))
  have ok2 : ¬ w.ring k e → w.chk (.turn k e) = none := fun z => by simp [Wd.chk, hk, he, z]
  have no2 : w.ring k e → E (Er.ring.at G) L := fun z => hno .ring (by simp [Wd.chk, hk, he, z])
  have fin : ¬ w.ring k e → retA Q .non (lup L le (.lst ((w.el.map encE).set k.toNat (encO e)))) := fun z => by
    obtain ⟨g1, g2⟩ := hW'.eld (i := k.toNat) (x := e.map Int.toNat) eS
    have enc : (w.el.map encE).set k.toNat (encO e) = (w.el.set k.toNat (e.map Int.toNat)).map encE := by
      rw [List.map_set, encO_E (okE_nonneg he)]
    rw [enc]
    exact retS (hok (ok2 z) _ g1 g2)
  obtain ⟨i, rfl, hi⟩ := okK_nat hk
  have st : ∀ N v, lSetI (.ref le) (.int i) v L N = N (lup L le (.lst ((w.el.map encE).set i v))) := fun N v => set_l hW.el (by simpa using hi)
  cases e with
  | none =>
    simp [encO, f1, st]
    exact fin id
  | some j =>
    simp [encO, m3]
    obtain ⟨j, rfl, hj⟩ := okK_nat (show w.okK j from he)
    refine above_w (by omega) hw hj hW' ?_
    refine in_lst (n := 0) (m := 0) (k := decide (i ∈ w.up j)) (by rfl) (treAll_iff.mpr fun l hl => ?_) (by omega) (by omega) ?_ ?_
    · obtain ⟨x, _, rfl⟩ := List.mem_map.mp hl
      rfl
    · rw [decide_eq_true_eq, List.mem_map]
      exact ⟨fun z => ⟨i, z, rfl⟩, fun ⟨x, hx, e⟩ => by
        have : (x : Int) = i := LV.int.inj e
        have : x = i := by omega
        exact this ▸ hx⟩
    · by_cases c : i ∈ w.up j
      · simp [c]
        exact exW (no2 (show (i : Int).toNat ∈ w.up (j : Int).toNat by simpa using c))
      · simp [c, f1, st]
        exact fin (show ¬ (i : Int).toNat ∈ w.up (j : Int).toNat by simpa using c)
end LK
set_option Elab.async false
set_option linter.all false
set_option maxRecDepth 100000
set_option maxHeartbeats 1000000
/-! Nears, plainly; how one stands. -/
namespace LK
open PySem PySem.Spec PyProof.Rows L2
abbrev Ent := Nat × Option (Nat × Int)
structure Nr where
  sp : Str
  wide : Nat
  rule : Str
  w : Wd
  kept : List (List Ent)
  hits : Int
  misses : Int
  fgt : Int
  thr : Int
  ndl : Int
def Nr.lt (n : Nr) (i : Nat) : Str := ⟨#[n.sp.cps.toList[i]?.getD 0]⟩
def Nr.at (n : Nr) (i : Nat) : List Ent := n.kept[i]?.getD []
structure Nok (n : Nr) : Prop where
  w : Wok n.w
  len : n.kept.length = n.sp.length
  lo : 1 ≤ n.sp.length
  hi : n.sp.length ≤ 8
  ltr : ∀ c ∈ n.sp.cps.toList, (⟨#[c]⟩ : Str) ∈ Lts
  wlo : 1 ≤ n.wide
  whi : n.wide ≤ 6
  rl : n.rule ∈ (["all", "deed", "below", "just"] : List Str)
  kl : ∀ es ∈ n.kept, es.length ≤ n.wide
  kn : ∀ es ∈ n.kept, (es.map (·.1)).Nodup
  kv : ∀ es ∈ n.kept, ∀ e ∈ es, e.1 < n.w.el.length
def encN (e : Ent) : LV := .tup [.int e.1, encF e.2]
def encL (es : List Ent) : LV := .lst (es.map encN)
def fsN (n : Nr) (aw ak : Addr) : List (Str × LV) := [("spots", .str n.sp), ("wide", .int n.wide), ("rule", .str n.rule), ("world", .ref aw), ("kept", .ref ak), ("hits", .int n.hits), ("misses", .int n.misses), ("forgotten", .int n.fgt), ("thrown", .int n.thr), ("needless", .int n.ndl)]
def rtN (G : GA) (n : Nr) (aw ak : Addr) : LO := .ins G.cN (fsN n aw ak)
def IsN (G : GA) (L : LHp) (a : Addr) (n : Nr) (S : List Addr) : Prop := ∃ aw ak Sw, S = a :: ak :: Sw ∧ S.Nodup ∧ L a = some (rtN G n aw ak) ∧ L ak = some (.lst (n.kept.map encL)) ∧ IsW (rtW G) L aw n.w Sw
section
variable {G : GA} {L L' : LHp} {a aw ak : Addr} {n : Nr} {S Sw : List Addr} {Q : QL} {N : LHp → Prop} {v : Int}
theorem IsN.mono (h : IsN G L a n S) (m : ∀ x, x ∈ S → L' x = L x) : IsN G L' a n S := by
  obtain ⟨aw, ak, Sw, rfl, nd, ha, hk, hw⟩ := h
  exact ⟨aw, ak, Sw, rfl, nd, by rw [m _ (by simp)]; exact ha, by rw [m _ (by simp)]; exact hk, hw.mono fun x hx => m x (by simp [hx])⟩
theorem IsN.sm (h : IsN G L a n S) : ∀ x, x ∈ S → L x ≠ none := by
  obtain ⟨aw, ak, Sw, rfl, nd, ha, hk, hw⟩ := h
  intro x hx
  rcases List.mem_cons.mp hx with rfl | hx
  · rw [ha]; exact fun z => nomatch z
  rcases List.mem_cons.mp hx with rfl | hx
  · rw [hk]; exact fun z => nomatch z
  · exact hw.sm x hx
theorem fN_spots (h : L a = some (rtN G n aw ak)) : brF G.cN "spots" (.ref a) Q L = Q (.str n.sp) L := brF_ref h (by rfl)
theorem fN_wide (h : L a = some (rtN G n aw ak)) : brF G.cN "wide" (.ref a) Q L = Q (.int n.wide) L := brF_ref h (by rfl)
theorem fN_rule (h : L a = some (rtN G n aw ak)) : brF G.cN "rule" (.ref a) Q L = Q (.str n.rule) L := brF_ref h (by rfl)
theorem fN_world (h : L a = some (rtN G n aw ak)) : brF G.cN "world" (.ref a) Q L = Q (.ref aw) L := brF_ref h (by rfl)
theorem fN_kept (h : L a = some (rtN G n aw ak)) : brF G.cN "kept" (.ref a) Q L = Q (.ref ak) L := brF_ref h (by rfl)
theorem fN_hits (h : L a = some (rtN G n aw ak)) : brF G.cN "hits" (.ref a) Q L = Q (.int n.hits) L := brF_ref h (by rfl)
theorem fN_misses (h : L a = some (rtN G n aw ak)) : brF G.cN "misses" (.ref a) Q L = Q (.int n.misses) L := brF_ref h (by rfl)
theorem fN_fgt (h : L a = some (rtN G n aw ak)) : brF G.cN "forgotten" (.ref a) Q L = Q (.int n.fgt) L := brF_ref h (by rfl)
theorem fN_thr (h : L a = some (rtN G n aw ak)) : brF G.cN "thrown" (.ref a) Q L = Q (.int n.thr) L := brF_ref h (by rfl)
theorem fN_ndl (h : L a = some (rtN G n aw ak)) : brF G.cN "needless" (.ref a) Q L = Q (.int n.ndl) L := brF_ref h (by rfl)
theorem pN_hits (h : L a = some (rtN G n aw ak)) : brP G.cN "hits" (.int v) (.ref a) N L = N (lup L a (rtN G { n with hits := v } aw ak)) := brP_ref h (by show 10 < 1000; decide)
theorem pN_misses (h : L a = some (rtN G n aw ak)) : brP G.cN "misses" (.int v) (.ref a) N L = N (lup L a (rtN G { n with misses := v } aw ak)) := brP_ref h (by show 10 < 1000; decide)
theorem pN_fgt (h : L a = some (rtN G n aw ak)) : brP G.cN "forgotten" (.int v) (.ref a) N L = N (lup L a (rtN G { n with fgt := v } aw ak)) := brP_ref h (by show 10 < 1000; decide)
theorem pN_thr (h : L a = some (rtN G n aw ak)) : brP G.cN "thrown" (.int v) (.ref a) N L = N (lup L a (rtN G { n with thr := v } aw ak)) := brP_ref h (by show 10 < 1000; decide)
theorem pN_ndl (h : L a = some (rtN G n aw ak)) : brP G.cN "needless" (.int v) (.ref a) N L = N (lup L a (rtN G { n with ndl := v } aw ak)) := brP_ref h (by show 10 < 1000; decide)
theorem nmeth {m : Str} {f : Addr → LHp → Prop} (h : L a = some (rtN G n aw ak)) (hm : (fsN n aw ak).lookup m = none := by rfl) : brM G.cN m (.ref a) f L = f a L := brM_of h hm
/-! the letters of spots -/
theorem ix_s {z : Str} {i : Nat} (hl : z.length ≤ sizeLine) (hi : i < z.length) : lIx (.str z) (.int i) L Q = Q (.str ⟨#[z.cps.toList[i]?.getD 0]⟩) L := by
  have hi' : i < z.cps.toList.length := by rw [Array.length_toList]; exact hi
  simp only [lIx]
  rw [atI_nat (List.getElem?_eq_getElem hi'), List.getElem?_eq_getElem hi']
  simp [hl]
theorem Nok.lt {n : Nr} (h : Nok n) {i : Nat} (hi : i < n.sp.length) : n.lt i ∈ Lts := by
  have hi' : i < n.sp.cps.toList.length := by rw [Array.length_toList]; exact hi
  unfold Nr.lt
  rw [List.getElem?_eq_getElem hi']
  exact h.ltr _ (List.getElem_mem hi')
theorem Nok.spl {n : Nr} (h : Nok n) : n.sp.length ≤ sizeLine := sz (by have := h.hi; omega)
theorem Nr.at_some {n : Nr} (h : Nok n) {i : Nat} (hi : i < n.sp.length) : n.kept[i]? = some (n.at i) ∧ n.at i ∈ n.kept := by
  have hi' : i < n.kept.length := by rw [h.len]; exact hi
  have e : n.kept[i]? = some (n.at i) := by
    unfold Nr.at
    rw [List.getElem?_eq_getElem hi']
    rfl
  exact ⟨e, List.mem_of_getElem? e⟩
theorem Frame.get {S : List Addr} {x : Addr} {o : LO} (f : Frame S L L') (hx : x ∉ S) (h : L x = some o) : L' x = some o := by
  rw [f x hx (by rw [h]; exact fun z => nomatch z)]
  exact h
end
/-! tables -/
section
variable {κ : Type} [DecidableEq κ] {α : Type}
theorem vl_nil {k : κ} : vl ([] : List (κ × α)) k = none := rfl
theorem vl_cons {k k' : κ} {v : α} {kvs : List (κ × α)} : vl ((k', v) :: kvs) k = if k' = k then some v else vl kvs k := by
  unfold vl
  rw [List.find?_cons]
  by_cases e : k' = k <;> simp [e]
theorem vl_app {k k' : κ} {v : α} {kvs : List (κ × α)} : vl (kvs ++ [(k', v)]) k = (vl kvs k).or (if k' = k then some v else none) := by
  induction kvs with
  | nil => rw [List.nil_append, vl_cons]; simp [vl_nil]
  | cons p kvs ih =>
    obtain ⟨a, b⟩ := p
    rw [List.cons_append, vl_cons, vl_cons, ih]
    by_cases e : a = k <;> simp [e]
theorem vl_none {k : κ} {kvs : List (κ × α)} : vl kvs k = none ↔ ¬ (kvs.any fun kv => decide (kv.1 = k)) = true := by
  induction kvs with
  | nil => simp [vl_nil]
  | cons p kvs ih =>
    obtain ⟨a, b⟩ := p
    rw [vl_cons]
    by_cases e : a = k <;> simp [e, ih]
theorem vl_pl {k k' : κ} {v : α} {kvs : List (κ × α)} : vl (pl kvs k' v) k = if k' = k then some v else vl kvs k := by
  unfold pl
  split
  · rename_i h
    induction kvs with
    | nil => simp at h
    | cons p kvs ih =>
      obtain ⟨a, b⟩ := p
      rw [List.map_cons]
      by_cases ea : a = k'
      · subst ea
        simp only [if_pos]
        rw [vl_cons, vl_cons]
        by_cases ek : a = k
        · simp [ek]
        · simp only [if_neg ek]
          by_cases h2 : (kvs.any fun kv => decide (kv.1 = a)) = true
          · rw [ih h2, if_neg ek]
          · have : kvs.map (fun kv => if kv.1 = a then (kv.1, v) else kv) = kvs := by
              rw [List.map_congr_left (g := id) fun p hp => ?_, List.map_id]
              have : ¬ p.1 = a := fun z => h2 (List.any_eq_true.mpr ⟨p, hp, by simp [z]⟩)
              simp [this]
            rw [this]
      · simp only [if_neg ea]
        rw [vl_cons, vl_cons]
        have h2 : (kvs.any fun kv => decide (kv.1 = k')) = true := by simpa [ea] using h
        rw [ih h2]
        by_cases ek : a = k
        · have : ¬ k' = k := fun z => ea (ek.trans z.symm)
          simp [ek, this]
        · simp [ek]
  · rename_i h
    rw [vl_app]
    by_cases e : k' = k
    · subst e
      rw [vl_none.mpr h]
      simp
    · simp [e]
theorem pl_len {k : κ} {v : α} {kvs : List (κ × α)} : (pl kvs k v).length ≤ kvs.length + 1 := by
  unfold pl
  split
  · simp
  · simp
end
end LK
set_option Elab.async false
set_option linter.all false
set_option maxRecDepth 100000
set_option maxHeartbeats 1000000
/-! Near.touched_by. -/
namespace LK
open PySem PySem.Spec PyProof.Rows L2
def Nr.tb (n : Nr) (ch : Int) (d : Option Str) (i k : Nat) : Bool := decide (n.rule = "all" ∨ ((n.rule ≠ "below" ∨ ∃ j ∈ n.w.up k, (j : Int) = ch) ∧ (d = none ∨ d = some (n.lt i))))
def encS : Option Str → LV
  | none => .non
  | some x => .str x
def kI (i k : Nat) : List Key := [Sum.inl (i : Int), Sum.inl (k : Int)]
theorem kI_inj {i k i' k' : Nat} : kI i k = kI i' k' ↔ i = i' ∧ k = k' := by
  unfold kI
  simp
  omega
/-- what a change is to forget: a table -/
def Tch (n : Nr) (ch : Int) (d : Option Str) (kvs : List (List Key × LV)) : Prop := ∀ i k, i < n.sp.length → k ∈ (n.at i).map (·.1) → (vl kvs (kI i k)).isSome = n.tb ch d i k
theorem upto_succ {n : Nat} : upto (n + 1) = upto n ++ [.int n] := by
  unfold upto
  rw [List.range_succ, List.map_append]
  rfl
def rng (i m : Nat) : List LV := (List.range' i m).map fun (j : Nat) => LV.int (j : Int)
theorem upto_rng {m : Nat} : upto m = rng 0 m := by
  unfold upto rng
  rw [List.range_eq_range']
theorem rng_succ {i m : Nat} : rng i (m + 1) = .int i :: rng (i + 1) m := by
  unfold rng
  rw [List.range'_succ]
  rfl
theorem rng_zero {i : Nat} : rng i 0 = [] := rfl
theorem lists_ne {L : LHp} {p q : Addr} {o : LO} (hp : L p = none) (hq : L q = some o) : q ≠ p := fun e => by
  rw [e, hp] at hq
  cases hq
theorem set_dt {L : LHp} {p : Addr} {kvs : List (List Key × LV)} {i k : Nat} {v : LV} {N : LHp → Prop} (h : L p = some (.dtt kvs)) : lSetI (.ref p) (.tup [.int i, .int k]) v L N = (kvs.length < sizeLine ∧ N (lup L p (.dtt (pl kvs (kI i k) v)))) := by
  simp only [lSetI, h, lKeys, lKey]
  rfl
theorem in_dt {L : LHp} {p : Addr} {kvs : List (List Key × LV)} {i k : Nat} {ng : Bool} {Q : QL} (h : L p = some (.dtt kvs)) : lIn ng (.tup [.int i, .int k]) (.ref p) L Q = Q (.bl (ng != (vl kvs (kI i k)).isSome)) L := by
  simp only [lIn, h, dAt, lKeys, lKey, Option.map]
  rfl
theorem in_t2 {L : LHp} {d : Option Str} {x : Str} {ng : Bool} {Q : QL} : lIn ng (encS d) (.tup [.non, .str x]) L Q = Q (.bl (ng != decide (d = none ∨ d = some x))) L := by
  cases d with
  | none => simp [lIn, encS, lflat, leqf]
  | some y =>
    simp only [lIn, encS, lflat, leqf, List.all_cons, List.all_nil, List.any_cons, List.any_nil, Bool.and_true, true_and, Bool.false_or, Bool.or_false]
    congr 3
    by_cases e : x = y
    · subst e; simp
    · have e2 : ¬ y = x := fun z => e z.symm
      simp [e, e2]
variable {G : GA} {L : LHp} {a : Addr} {n : Nr} {S : List Addr} {Q : QL} {E : XL} {m : Nat}
theorem Nok.entries {n : Nr} (h : Nok n) {i : Nat} (hi : i < n.sp.length) : (n.at i).length ≤ 6 ∧ ((n.at i).map (·.1)).Nodup ∧ ∀ e ∈ n.at i, e.1 < n.w.el.length := by
  have := (Nr.at_some h hi).2
  exact ⟨Nat.le_trans (h.kl _ this) h.whi, h.kn _ this, h.kv _ this⟩
theorem touched_s {ch : Int} {d : Option Str} (hm : 2 ≤ m) (ok : Nok n) (hN : IsN G L a n S) (h : ∀ p kvs, L p = none → Tch n ch d kvs → Q (.ref p) (lup L p (.dtt kvs))) : cwk G m .Near_touched_by [.ref a, .int ch, encS d] L Q E := by
  obtain ⟨m, rfl⟩ := Nat.exists_eq_add_of_le' hm
  show bodyC 3 8 (B_Near_touched_by G (cwk G (m + 1))) _ _ _ _
  refine ⟨rfl, ?_⟩
  unfold B_Near_touched_by
  have hN' := hN
  obtain ⟨aw, ak, Sw, rfl, nd, ha, hk, hw⟩ := hN
  simp
  intro p hp
  have pa := lists_ne hp ha
  have pk := lists_ne hp hk
  have ps : ∀ x ∈ Sw, x ≠ p := fun x hx e => hw.sm x hx (e ▸ hp)
  have f1 : ∀ Q o, brF G.cN "spots" (.ref a) Q (lup L p o) = Q (.str n.sp) (lup L p o) := fun Q o => fN_spots (by rw [lup_ne pa]; exact ha)
  have f2 : ∀ Q o, brF G.cN "kept" (.ref a) Q (lup L p o) = Q (.ref ak) (lup L p o) := fun Q o => fN_kept (by rw [lup_ne pa]; exact ha)
  have f3 : ∀ Q o, brF G.cN "rule" (.ref a) Q (lup L p o) = Q (.str n.rule) (lup L p o) := fun Q o => fN_rule (by rw [lup_ne pa]; exact ha)
  have f4 : ∀ Q o, brF G.cN "world" (.ref a) Q (lup L p o) = Q (.ref aw) (lup L p o) := fun Q o => fN_world (by rw [lup_ne pa]; exact ha)
  have hw2 : ∀ o, IsW (rtW G) (lup L p o) aw n.w Sw := fun o => hw.mono fun x hx => lup_ne (ps x hx)
  have m1 : ∀ f o, brM G.cW "above" (.ref aw) f (lup L p o) = f aw (lup L p o) := fun f o => by
    obtain ⟨le, lo, ds, e, _, ha', _⟩ := hw2 o
    exact brM_of ha' (by rfl)
  have spl : n.sp.length ≤ 8 := ok.hi
  simp [f1]
  refine ⟨sz (by omega), by omega, ?_⟩
  rw [upto_rng]
  refine forGo_ind (fun ls σ L' => ∃ i kvs o4 o5 o6 o7, i ≤ n.sp.length ∧ ls = rng i (n.sp.length - i) ∧ σ = [some (.ref a), some (.int ch), some (encS d), some (.ref p), o4, o5, o6, o7] ∧ L' = lup L p (.dtt kvs) ∧ kvs.length ≤ 6 * i ∧
    ∀ i' k, (vl kvs (kI i' k)).isSome = true ↔ (i' < i ∧ k ∈ (n.at i').map (·.1) ∧ n.tb ch d i' k = true)) ⟨0, [], none, none, none, none, Nat.zero_le _, rfl, rfl, rfl, Nat.zero_le _, by simp [vl_nil]⟩ ?_ ?_
  · rintro σ L' ⟨i, kvs, o4, o5, o6, o7, hi, hls, rfl, rfl, hl, hv⟩
    have : n.sp.length - i = 0 := by
      have := congrArg List.length hls
      simpa [rng] using this.symm
    simp
    refine ret_same (h p kvs hp fun i' k h1 h2 => ?_)
    have := hv i' k
    have h3 : i' < i := by omega
    cases e : n.tb ch d i' k with
    | true => exact this.mpr ⟨h3, h2, e⟩
    | false => exact Bool.eq_false_iff.mpr fun z => by rw [e] at this; exact Bool.noConfusion (this.mp z).2.2
  · rintro l ls σ L' N ⟨i, kvs, o4, o5, o6, o7, hi, hls, rfl, rfl, hl, hv⟩ hN2
    have hlt : i < n.sp.length := by
      by_cases c : i < n.sp.length
      · exact c
      · have : n.sp.length - i = 0 := by omega
        rw [this] at hls
        cases hls
    obtain ⟨j, ej⟩ : ∃ j, n.sp.length - i = j + 1 := ⟨n.sp.length - i - 1, by omega⟩
    rw [ej, rng_succ] at hls
    obtain ⟨rfl, rfl⟩ := List.cons.inj hls
    obtain ⟨e1, e2⟩ := Nr.at_some ok hlt
    obtain ⟨en1, en2, en3⟩ := ok.entries hlt
    have x1 : ∀ Q o, lIx (.ref ak) (.int i) (lup L p o) Q = Q (encL (n.at i)) (lup L p o) := fun Q o => by
      rw [ix_r (ls := n.kept.map encL) (by rw [lup_ne pk]; exact hk), atI_nat (l := encL (n.at i)) (by rw [List.getElem?_map, e1]; rfl)]
      rfl
    simp [f2, x1, encL]
    refine forGo_ind (fun ls σ L' => ∃ pre r kvs o5 o6 o7, pre ++ r = n.at i ∧ ls = r.map encN ∧ σ = [some (.ref a), some (.int ch), some (encS d), some (.ref p), some (.int i), o5, o6, o7] ∧ L' = lup L p (.dtt kvs) ∧ kvs.length ≤ 6 * i + pre.length ∧
      ∀ i' k, (vl kvs (kI i' k)).isSome = true ↔ ((i' < i ∧ k ∈ (n.at i').map (·.1) ∧ n.tb ch d i' k = true) ∨ (i' = i ∧ k ∈ pre.map (·.1) ∧ n.tb ch d i' k = true))) ⟨[], n.at i, kvs, o5, o6, o7, rfl, rfl, rfl, rfl, by simpa using hl, fun i' k => by rw [hv]; simp⟩ ?_ ?_
    · rintro σ L' ⟨pre, r, kvs, o5, o6, o7, hpr, hls, rfl, rfl, hl, hv⟩
      have : r = [] := by simpa using hls.symm
      subst this
      have hpr' : pre = n.at i := by simpa using hpr
      subst hpr'
      refine hN2 _ _ ⟨i + 1, kvs, _, _, _, _, hlt, ?_, rfl, rfl, by omega, fun i' k => ?_⟩ trivial
      · congr 1
        omega
      · rw [hv]
        constructor
        · rintro (⟨h1, h2, h3⟩ | ⟨rfl, h2, h3⟩)
          · exact ⟨by omega, h2, h3⟩
          · exact ⟨by omega, h2, h3⟩
        · rintro ⟨h1, h2, h3⟩
          by_cases c : i' = i
          · subst c
            exact .inr ⟨rfl, h2, h3⟩
          · exact .inl ⟨by omega, h2, h3⟩
    · rintro l ls σ L' N ⟨pre, r, kvs, o5, o6, o7, hpr, hls, rfl, rfl, hl, hv⟩ hN3
      cases r with
      | nil => cases hls
      | cons e r =>
        obtain ⟨rfl, rfl⟩ := List.cons.inj hls
        have hek := en3 e (by rw [← hpr]; simp)
        have hpl : pre.length < 6 := by
          have := congrArg List.length hpr
          simp at this
          omega
        have step : ∀ (b : Bool) kvs', b = n.tb ch d i e.1 → (b = true → kvs' = pl kvs (kI i e.1) (.bl true)) → (b = false → kvs' = kvs) → N ([some (.ref a), some (.int ch), some (encS d), some (.ref p), some (.int i), some (.int e.1), some (encF e.2), some (.bl (decide (n.rule ≠ "below" ∨ ∃ j ∈ n.w.up e.1, (j : Int) = ch)))]) (lup L p (.dtt kvs')) := fun b kvs' hb h1 h2 => by
          refine hN3 _ _ ⟨pre ++ [e], r, kvs', _, _, _, by simp [hpr], rfl, rfl, rfl, ?_, fun i' k => ?_⟩ trivial
          · cases b with
            | true =>
              rw [h1 rfl]
              have := pl_len (kvs := kvs) (k := kI i e.1) (v := LV.bl true)
              simp
              omega
            | false =>
              rw [h2 rfl]
              simp
              omega
          · cases b with
            | true =>
              rw [h1 rfl, vl_pl]
              by_cases c : kI i e.1 = kI i' k
              · rw [if_pos c]
                obtain ⟨rfl, rfl⟩ := kI_inj.mp c
                simp [← hb]
              · rw [if_neg c, hv]
                have : ¬ (i = i' ∧ e.1 = k) := fun z => c (kI_inj.mpr z)
                simp
                constructor
                · rintro (z | ⟨z1, z2, z3⟩)
                  · exact .inl z
                  · exact .inr ⟨z1, .inl z2, z3⟩
                · rintro (z | ⟨z1, z2 | z2, z3⟩)
                  · exact .inl z
                  · exact .inr ⟨z1, z2, z3⟩
                  · exact absurd ⟨z1.symm, z2.symm⟩ this
            | false =>
              rw [h2 rfl, hv]
              simp
              constructor
              · rintro (z | ⟨z1, z2, z3⟩)
                · exact .inl z
                · exact .inr ⟨z1, .inl z2, z3⟩
              · rintro (z | ⟨z1, z2 | z2, z3⟩)
                · exact .inl z
                · exact .inr ⟨z1, z2, z3⟩
                · subst z1 z2
                  rw [← hb] at z3
                  cases z3
        have st : ∀ N', lSetI (.ref p) (.tup [.int i, .int e.1]) (.bl true) (lup L p (.dtt kvs)) N' = N' (lup L p (.dtt (pl kvs (kI i e.1) (.bl true)))) := fun N' => by
          rw [set_dt lup_same, lup_lup]
          exact propext ⟨fun z => z.2, fun z => ⟨szl (by omega), z⟩⟩
        have x2 : ∀ Q o, lIx (.str n.sp) (.int i) (lup L p o) Q = Q (.str (n.lt i)) (lup L p o) := fun Q o => ix_s ok.spl hlt
        have s2 : 2 ≤ sizeLine := sz (by decide)
        simp [encN, tupOf, setAll, f3, f4, f1]
        have hup := ok.w.up _ hek
        by_cases c1 : n.rule = "below"
        · have c2 : ¬ n.rule = "all" := by rw [c1]; decide
          simp [c1, f4, m1]
          refine above_w (by omega) ok.w hek (hw2 _) ?_
          refine in_lst (n := 0) (m := 0) (k := decide (∃ j ∈ n.w.up e.1, (j : Int) = ch)) (by rfl) (treAll_iff.mpr fun l hl => ?_) (by omega) (by omega) ?_ ?_
          · obtain ⟨x, _, rfl⟩ := List.mem_map.mp hl
            rfl
          · rw [decide_eq_true_eq, List.mem_map]
            exact ⟨fun ⟨j, h1, h2⟩ => ⟨j, h1, by rw [← h2]; rfl⟩, fun ⟨j, h1, h2⟩ => ⟨j, h1, LV.int.inj h2⟩⟩
          · by_cases c3 : ∃ j ∈ n.w.up e.1, (j : Int) = ch
            · have st2 := step (n.tb ch d i e.1) (if n.tb ch d i e.1 = true then pl kvs (kI i e.1) (.bl true) else kvs) rfl (fun z => if_pos z) (fun z => if_neg (by rw [z]; simp))
              have tb : n.tb ch d i e.1 = decide (d = none ∨ d = some (n.lt i)) := by
                unfold Nr.tb
                exact decide_eq_decide.mpr ⟨fun z => z.elim (fun z => absurd z c2) fun z => z.2, fun z => .inr ⟨.inr c3, z⟩⟩
              have dn : decide (n.rule ≠ "below" ∨ ∃ j ∈ n.w.up e.1, (j : Int) = ch) = true := decide_eq_true (.inr c3)
              rw [tb, dn] at st2
              have dc : decide (∃ j ∈ n.w.up e.1, (j : Int) = ch) = true := decide_eq_true c3
              rw [dc]
              by_cases c4 : d = none ∨ d = some (n.lt i)
              · rw [decide_eq_true c4, if_pos rfl] at st2
                simp [f3, f1, x2, in_t2, st, c2, c4, s2]
                exact st2
              · rw [decide_eq_false c4, if_neg (by simp)] at st2
                simp [f3, f1, x2, in_t2, st, c2, c4, s2]
                exact st2
            · have st2 := step false kvs (by
                unfold Nr.tb
                exact (decide_eq_false (fun z => z.elim (fun z => c2 z) fun z => z.1.elim (fun z => z c1) c3)).symm) (fun z => Bool.noConfusion z) (fun _ => rfl)
              have dn : decide (n.rule ≠ "below" ∨ ∃ j ∈ n.w.up e.1, (j : Int) = ch) = false := decide_eq_false fun z => z.elim (fun z => z c1) c3
              have dc : decide (∃ j ∈ n.w.up e.1, (j : Int) = ch) = false := decide_eq_false c3
              rw [dn] at st2
              rw [dc]
              simp [f3, f1, x2, in_t2, st, c2, s2]
              exact st2
        · have dn : decide (n.rule ≠ "below" ∨ ∃ j ∈ n.w.up e.1, (j : Int) = ch) = true := decide_eq_true (.inl c1)
          have st2 := step (n.tb ch d i e.1) (if n.tb ch d i e.1 = true then pl kvs (kI i e.1) (.bl true) else kvs) rfl (fun z => if_pos z) (fun z => if_neg (by rw [z]; simp))
          rw [dn] at st2
          by_cases c2 : n.rule = "all"
          · have tb : n.tb ch d i e.1 = true := decide_eq_true (.inl c2)
            rw [tb, if_pos rfl] at st2
            have c3 : ¬ (("all" : Str) = "below") := by decide
            simp [f3, c2, c3, st, s2]
            exact st2
          · have tb : n.tb ch d i e.1 = decide (d = none ∨ d = some (n.lt i)) := by
              unfold Nr.tb
              exact decide_eq_decide.mpr ⟨fun z => z.elim (fun z => absurd z c2) fun z => z.2, fun z => .inr ⟨.inl c1, z⟩⟩
            rw [tb] at st2
            by_cases c4 : d = none ∨ d = some (n.lt i)
            · rw [decide_eq_true c4, if_pos rfl] at st2
              simp [f3, f1, x2, in_t2, st, c1, c2, c4, s2]
              exact st2
            · rw [decide_eq_false c4, if_neg (by simp)] at st2
              simp [f3, f1, x2, in_t2, st, c1, c2, c4, s2]
              exact st2
end LK
set_option Elab.async false
set_option linter.all false
set_option maxRecDepth 100000
set_option maxHeartbeats 1000000
/-! sorted, as a function. -/
namespace LK
open PySem PySem.Spec PyProof.Rows L2
theorem perm_uniq {α : Type} {R : α → α → Prop} (as : ∀ a b, R a b → R b a → a = b) (rf : ∀ a, R a a) : ∀ {l m : List α}, l.Perm m → l.Pairwise R → m.Pairwise R → l = m
  | [], m, h, _, _ => (List.nil_perm.mp h).symm
  | a :: l, [], h, _, _ => nomatch (List.perm_nil.mp h)
  | a :: l, b :: m, h, h1, h2 => by
    rw [List.pairwise_cons] at h1 h2
    have e : a = b := by
      have ha : a ∈ b :: m := h.subset List.mem_cons_self
      have hb : b ∈ a :: l := h.symm.subset List.mem_cons_self
      rcases List.mem_cons.mp ha with e | ha
      · exact e
      rcases List.mem_cons.mp hb with e | hb
      · exact e.symm
      exact as a b (h1.1 b hb) (h2.1 a ha)
    subst e
    rw [perm_uniq as rf ((List.perm_cons a).mp h) h1.2 h2.2]
def leP (p q : Int × Int) : Bool := !SrtO.lexB q p
theorem leP_iff {p q : Int × Int} : leP p q = true ↔ p.1 < q.1 ∨ (p.1 = q.1 ∧ p.2 ≤ q.2) := by
  unfold leP
  rw [Bool.not_eq_true', SrtO.lexB_no]
  omega
def srt (ps : List (Int × Int)) : List (Int × Int) := ps.mergeSort leP
theorem srt_of {ps qs : List (Int × Int)} (h : qs.Perm ps) (h2 : qs.Pairwise (fun p q => SrtO.lexB q p = false)) : qs = srt ps := by
  refine perm_uniq (R := fun p q => SrtO.lexB q p = false) (fun a b h1 h2 => ?_) (fun a => ?_) (h.trans (List.mergeSort_perm ps leP).symm) h2 ?_
  · rw [SrtO.lexB_no] at h1 h2
    have e1 : a.1 = b.1 := by omega
    have e2 : a.2 = b.2 := by omega
    exact Prod.ext e1 e2
  · rw [SrtO.lexB_no]
    omega
  · have := List.pairwise_mergeSort (le := leP) (fun a b c h1 h2 => by rw [leP_iff] at h1 h2 ⊢; omega) (fun a b => by rw [Bool.or_eq_true, leP_iff, leP_iff]; omega) ps
    refine this.imp fun {a b} h => ?_
    rw [leP_iff] at h
    rw [SrtO.lexB_no]
    omega
theorem srt_perm (ps : List (Int × Int)) : (srt ps).Perm ps := List.mergeSort_perm ps leP
section
variable {L : LHp} {Q : QL}
theorem sortP_l {fr : Bool} {ls : List LV} {ps : List (Int × Int)} {a : LV} (h : lstOf L a = some ls) (e : ipsOf ls = some ps) (q : newL fr ((srt ps).map ipL) L Q) : lSortP fr [a] L Q := by
  simp only [lSortP, h, e]
  intro qs h1 h2
  rw [srt_of h1 h2]
  exact q
end
end LK
set_option Elab.async false
set_option linter.all false
set_option maxRecDepth 100000
set_option maxHeartbeats 1000000
/-! Near.forget. -/
namespace LK
open PySem PySem.Spec PyProof.Rows L2
abbrev TC := Nat → Nat → Bool
def Nr.same (n : Nr) (i : Nat) (e : Ent) : Bool := decide (n.w.fnd e.1 (n.lt i) = e.2)
def Nr.goes (n : Nr) (tc : TC) (i : Nat) (e : Ent) : Bool := if n.rule = "just" then !n.same i e else tc i e.1
def pN (i : Nat) (e : Ent) : Int × Int := (i, e.1)
def Nr.gone (n : Nr) (tc : TC) (m : Nat) : List (Int × Int) := (List.range m).flatMap fun i => ((n.at i).filter (n.goes tc i)).map (pN i)
def Nr.need1 (n : Nr) (tc : TC) (i : Nat) (es : List Ent) : Int := ((es.filter fun e => n.goes tc i e && n.same i e).length : Nat)
def Nr.need (n : Nr) (tc : TC) : Nat → Int
  | 0 => 0
  | m + 1 => n.need tc m + n.need1 tc m (n.at m)
def Nr.left (n : Nr) (tc : TC) (i : Nat) : List Ent := (n.at i).filter fun e => !n.goes tc i e
def Nr.leftK (n : Nr) (tc : TC) (m : Nat) : List (List Ent) := (List.range m).map (n.left tc) ++ n.kept.drop m
/-- the entries that go are let go -/
def Nr.fgot (n : Nr) (tc : TC) : Nr := { n with kept := n.leftK tc n.sp.length, fgt := n.fgt + (n.gone tc n.sp.length).length, ndl := n.ndl + n.need tc n.sp.length }
/-- the table says it -/
def Tcs (n : Nr) (tc : TC) (kvs : List (List Key × LV)) : Prop := ∀ i k, i < n.sp.length → k ∈ (n.at i).map (·.1) → (vl kvs (kI i k)).isSome = tc i k
theorem gone_succ {n : Nr} {tc : TC} {m : Nat} : n.gone tc (m + 1) = n.gone tc m ++ ((n.at m).filter (n.goes tc m)).map (pN m) := by
  simp [Nr.gone, List.range_succ, List.flatMap_append]
theorem leftK_set {n : Nr} {tc : TC} {m : Nat} (h : m < n.kept.length) : (n.leftK tc m).set m (n.left tc m) = n.leftK tc (m + 1) := by
  unfold Nr.leftK
  rw [List.range_succ, List.map_append, List.append_assoc]
  have : (List.map (n.left tc) (List.range m)).length = m := by simp
  rw [List.set_append_right _ _ (by omega), this, Nat.sub_self, List.drop_eq_getElem_cons h]
  rfl
variable {G : GA} {L : LHp} {a : Addr} {n : Nr} {S : List Addr} {Q : QL} {E : XL} {m : Nat}
theorem encF_tre {f : Option (Nat × Int)} : (encF f).tre false 1 = true := by
  cases f <;> rfl
theorem encF_inj {f g : Option (Nat × Int)} : encF f = encF g ↔ f = g := by
  cases f with
  | none => cases g <;> simp [encF]
  | some p =>
    cases g with
    | none => simp [encF]
    | some q =>
      obtain ⟨p1, p2⟩ := p
      obtain ⟨q1, q2⟩ := q
      simp [encF]
      omega
theorem forget_s {p : Addr} {kvs : List (List Key × LV)} {tc : TC} (hm : 3 ≤ m) (ok : Nok n) (hN : IsN G L a n S) (hp : L p = some (.dtt kvs)) (hT : Tcs n tc kvs)
    (h : ∀ L' q, L q = none → L' q = some (.lst ((srt (n.gone tc n.sp.length)).map ipL)) → IsN G L' a (n.fgot tc) S → Frame S L L' → Q (.ref q) L') : cwk G m .Near_forget [.ref a, .ref p] L Q E := by
  obtain ⟨m, rfl⟩ := Nat.exists_eq_add_of_le' hm
  show bodyC 2 8 (B_Near_forget G (cwk G (m + 2))) _ _ _ _
  refine ⟨rfl, ?_⟩
  unfold B_Near_forget
  have hN' := hN
  obtain ⟨aw, ak, Sw, rfl, nd, ha, hk, hw⟩ := hN
  have nd' := nd
  simp only [List.nodup_cons, List.mem_cons, not_or] at nd'
  simp
  intro g hg
  have ga := lists_ne hg ha
  have gk := lists_ne hg hk
  have gp := lists_ne hg hp
  have gs : ∀ x ∈ Sw, x ≠ g := fun x hx e => hw.sm x hx (e ▸ hg)
  have spl : n.sp.length ≤ 8 := ok.hi
  have pa : p ≠ a := fun e => by rw [e, ha] at hp; cases hp
  have pk : p ≠ ak := fun e => by rw [e, hk] at hp; cases hp
  rw [fN_spots (n := n) (aw := aw) (ak := ak) (by rw [lup_ne ga]; exact ha)]
  simp
  refine ⟨sz (by omega), by omega, ?_⟩
  rw [upto_rng]
  have frA : ∀ {L'}, Frame [a, ak] L L' → ∀ x ∈ Sw, L' x = L x := fun fr x hx => fr x (by
    simp only [List.mem_cons, List.not_mem_nil, or_false, not_or]
    exact ⟨fun e => nd'.1.2 (e ▸ hx), fun e => nd'.2.1 (e ▸ hx)⟩) (hw.sm x hx)
  refine forGo_ind (fun ls σ L' => ∃ i o3 o4 o5 o6 o7, i ≤ n.sp.length ∧ ls = rng i (n.sp.length - i) ∧ σ = [some (.ref a), some (.ref p), some (.ref g), o3, o4, o5, o6, o7] ∧ Frame [a, ak] L L' ∧
    L' a = some (rtN G { n with ndl := n.ndl + n.need tc i } aw ak) ∧ L' ak = some (.lst ((n.leftK tc i).map encL)) ∧ L' g = some (.lst ((n.gone tc i).map ipL)) ∧ (n.gone tc i).length ≤ 6 * i) ⟨0, none, none, none, none, none, Nat.zero_le _, rfl, rfl, Frame.lup (.inr hg), ?_, ?_, ?_, ?_⟩ ?_ ?_
  · rw [lup_ne ga, ha]
    simp [Nr.need]
  · rw [lup_ne gk, hk]
    simp [Nr.leftK]
  · rw [lup_same]
    rfl
  · exact Nat.zero_le _
  · rintro σ L' ⟨i, o3, o4, o5, o6, o7, hi, hls, rfl, fr, hA, hK, hG, hl⟩
    have e0 : n.sp.length - i = 0 := by
      have := congrArg List.length hls
      simpa [rng] using this.symm
    have e1 : i = n.sp.length := by omega
    subst e1
    simp
    rw [fN_fgt hA]
    simp [c_len_r hG]
    rw [pN_fgt hA]
    refine sortP_l (ls := (n.gone tc n.sp.length).map ipL) (by simp only [lstOf]; rw [lup_ne (Ne.symm ga), hG]) (ipsOf_map _) ?_
    intro q hq
    have qg := lists_ne hq (show lup L' a (rtN G { n with ndl := n.ndl + n.need tc n.sp.length, fgt := n.fgt + (n.gone tc n.sp.length).length } aw ak) g = some _ by rw [lup_ne (Ne.symm ga)]; exact hG)
    have qa : a ≠ q := lists_ne hq lup_same
    have qk : ak ≠ q := lists_ne hq (by rw [lup_ne (Ne.symm nd'.1.1)]; exact hK)
    have hqL' : L' q = none := by
      rw [lup_ne (Ne.symm qa)] at hq
      exact hq
    have hqL : L q = none := by
      cases e : L q with
      | none => rfl
      | some o =>
        have := fr.get (x := q) (by simp only [List.mem_cons, List.not_mem_nil, or_false, not_or]; exact ⟨Ne.symm qa, Ne.symm qk⟩) e
        rw [hqL'] at this
        cases this
    have qs : ∀ x ∈ Sw, x ≠ q := fun x hx e => hw.sm x hx (by rw [e]; exact hqL)
    refine ret_same (h _ q hqL lup_same ⟨aw, ak, Sw, rfl, nd, ?_, ?_, ?_⟩ ?_)
    · rw [lup_ne qa, lup_same]
      rfl
    · rw [lup_ne qk, lup_ne (Ne.symm nd'.1.1), hK]
      rfl
    · exact hw.mono fun x hx => by
        rw [lup_ne (qs x hx), lup_ne (show x ≠ a from fun e => nd'.1.2 (e ▸ hx))]
        exact frA fr x hx
    · intro x h1 h2
      simp only [List.mem_cons, not_or] at h1
      rw [lup_ne (fun e => h2 (by rw [e]; exact hqL)), lup_ne h1.1]
      exact fr x (by simp [h1.1, h1.2.1]) h2
  · rintro l ls σ L' N ⟨i, o3, o4, o5, o6, o7, hi, hls, rfl, fr, hA, hK, hG, hl⟩ hN2
    have hlt : i < n.sp.length := by
      by_cases c : i < n.sp.length
      · exact c
      · have : n.sp.length - i = 0 := by omega
        rw [this] at hls
        cases hls
    obtain ⟨j, ej⟩ : ∃ j, n.sp.length - i = j + 1 := ⟨n.sp.length - i - 1, by omega⟩
    rw [ej, rng_succ] at hls
    obtain ⟨rfl, rfl⟩ := List.cons.inj hls
    obtain ⟨e1, e2⟩ := Nr.at_some ok hlt
    obtain ⟨en1, en2, en3⟩ := ok.entries hlt
    have hik : i < n.kept.length := by rw [ok.len]; exact hlt
    have e3 : (n.leftK tc i)[i]? = some (n.at i) := by
      have : (List.map (n.left tc) (List.range i)).length = i := by simp
      unfold Nr.leftK
      rw [List.getElem?_append_right (by omega), this, Nat.sub_self, List.getElem?_drop]
      exact e1
    simp
    intro q hq
    have qa := lists_ne hq hA
    have qk := lists_ne hq hK
    have qg := lists_ne hq hG
    have qL : L q = none := by
      cases e : L q with
      | none => rfl
      | some o =>
        have := fr.get (x := q) (by simp only [List.mem_cons, List.not_mem_nil, or_false, not_or]; exact ⟨Ne.symm qa, Ne.symm qk⟩) e
        rw [hq] at this
        cases this
    have qp : p ≠ q := lists_ne qL hp
    rw [fN_kept (n := { n with ndl := n.ndl + n.need tc i }) (aw := aw) (ak := ak) (by rw [lup_ne qa]; exact hA)]
    rw [ix_r (ls := (n.leftK tc i).map encL) (by rw [lup_ne qk]; exact hK), atI_nat (l := encL (n.at i)) (by rw [List.getElem?_map, e3]; rfl)]
    simp [encL]
    refine forGo_ind (fun ls σ L' => ∃ pre r o5 o6 o7, pre ++ r = n.at i ∧ ls = r.map encN ∧ σ = [some (.ref a), some (.ref p), some (.ref g), some (.int i), some (.ref q), o5, o6, o7] ∧ Frame [a, ak] L L' ∧
      L' a = some (rtN G { n with ndl := n.ndl + (n.need tc i + n.need1 tc i pre) } aw ak) ∧ L' ak = some (.lst ((n.leftK tc i).map encL)) ∧ L' g = some (.lst ((n.gone tc i ++ (pre.filter (n.goes tc i)).map (pN i)).map ipL)) ∧
      L' q = some (.lst ((pre.filter fun e => !n.goes tc i e).map encN))) ⟨[], n.at i, o5, o6, o7, rfl, rfl, rfl, ?_, ?_, ?_, ?_, ?_⟩ ?_ ?_
    · intro x h1 h2
      rw [lup_ne (fun e => h2 (by rw [e]; exact qL))]
      exact fr x h1 h2
    · rw [lup_ne qa, hA]
      simp [Nr.need1]
    · rw [lup_ne qk, hK]
    · rw [lup_ne qg, hG]
      simp
    · rw [lup_same]
      rfl
    · rintro σ L' ⟨pre, r, o5, o6, o7, hpr, hls, rfl, fr, hA, hK, hG, hF⟩
      have : r = [] := by simpa using hls.symm
      subst this
      have hpr' : pre = n.at i := by simpa using hpr
      subst hpr'
      simp
      refine ⟨_, hF, ?_⟩
      rw [fN_kept (n := { n with ndl := n.ndl + (n.need tc i + n.need1 tc i (n.at i)) }) (aw := aw) (ak := ak) (by rw [ler_ne qa]; exact hA)]
      have st := fun v N' => set_l (N := N') (a := v) (k := i) (L := ler L' q) (p := ak) (ls := (n.leftK tc i).map encL) (by rw [ler_ne qk]; exact hK) (by rw [List.length_map]; exact (List.getElem?_eq_some_iff.mp e3).1)
      rw [st]
      refine hN2 _ _ ⟨i + 1, _, _, _, _, _, hlt, ?_, rfl, ?_, ?_, ?_, ?_, ?_⟩ trivial
      · congr 1
        omega
      · intro x h1 h2
        rw [lup_ne (by simp at h1; exact h1.2), ler_ne (fun e => h2 (by rw [e]; exact qL))]
        exact fr x h1 h2
      · rw [lup_ne nd'.1.1, ler_ne qa, hA]
        rfl
      · rw [lup_same, ← leftK_set hik, List.map_set]
        rfl
      · rw [lup_ne (Ne.symm gk), ler_ne qg, hG, gone_succ]
      · rw [gone_succ, List.length_append, List.length_map]
        have := List.length_filter_le (n.goes tc i) (n.at i)
        omega
    · rintro l ls σ L' N ⟨pre, r, o5, o6, o7, hpr, hls, rfl, fr, hA, hK, hG, hF⟩ hN3
      cases r with
      | nil => cases hls
      | cons e r =>
        obtain ⟨rfl, rfl⟩ := List.cons.inj hls
        have hek := en3 e (by rw [← hpr]; simp)
        have hpl : pre.length < 6 := by
          have := congrArg List.length hpr
          simp at this
          omega
        have hW : IsW (rtW G) L' aw n.w Sw := hw.mono (frA fr)
        have hpL : L' p = some (.dtt kvs) := fr.get (by simp [pa, pk]) hp
        simp [encN, tupOf, setAll]
        rw [fN_world hA]
        obtain ⟨le, lo, ds, _, _, haw, _⟩ := hW
        rw [brM_of haw (by rfl)]
        rw [fN_spots hA, ix_s ok.spl hlt]
        refine found_by_s (by omega) ok.w hek (hw.mono (frA fr)) ?_
        refine o_eq_tree (n := 1) (m := 1) (k := n.same i e) encF_tre encF_tre (by omega) (by omega) ?_ ?_
        · unfold Nr.same
          rw [decide_eq_true_eq, encF_inj]
          rfl
        have tailG : n.goes tc i e = true → N [some (.ref a), some (.ref p), some (.ref g), some (.int i), some (.ref q), some (.int e.1), some (encF e.2), some (.bl (n.same i e))]
            (lup (lup L' g (.lst ((n.gone tc i ++ (pre.filter (n.goes tc i)).map (pN i)).map ipL ++ [.tup [.int i, .int e.1]]))) a (rtN G { n with ndl := n.ndl + (n.need tc i + n.need1 tc i pre) + (if n.same i e = true then 1 else 0) } aw ak)) := fun hgo => by
          refine hN3 _ _ ⟨pre ++ [e], r, _, _, _, by simp [hpr], rfl, rfl, ?_, ?_, ?_, ?_, ?_⟩ trivial
          · intro x h1 h2
            rw [lup_ne (by simp at h1; exact h1.1), lup_ne (fun z => h2 (by rw [z]; exact hg))]
            exact fr x h1 h2
          · rw [lup_same]
            have : n.need1 tc i (pre ++ [e]) = n.need1 tc i pre + (if n.same i e = true then 1 else 0) := by
              unfold Nr.need1
              rw [List.filter_append, List.length_append]
              cases hs : n.same i e <;> simp [hgo, hs]
            rw [this, Int.add_assoc, Int.add_assoc]
          · rw [lup_ne (Ne.symm nd'.1.1), lup_ne gk, hK]
          · rw [lup_ne (Ne.symm ga), lup_same]
            simp [hgo]
            rfl
          · rw [lup_ne (Ne.symm qa), lup_ne (Ne.symm qg), hF]
            simp [hgo]
        have tailL : n.goes tc i e = false → N [some (.ref a), some (.ref p), some (.ref g), some (.int i), some (.ref q), some (.int e.1), some (encF e.2), some (.bl (n.same i e))]
            (lup L' q (.lst ((pre.filter fun e => !n.goes tc i e).map encN ++ [.tup [.int e.1, encF e.2]]))) := fun hgo => by
          refine hN3 _ _ ⟨pre ++ [e], r, _, _, _, by simp [hpr], rfl, rfl, ?_, ?_, ?_, ?_, ?_⟩ trivial
          · intro x h1 h2
            rw [lup_ne (fun z => h2 (by rw [z]; exact qL))]
            exact fr x h1 h2
          · rw [lup_ne qa, hA]
            have : n.need1 tc i (pre ++ [e]) = n.need1 tc i pre := by
              unfold Nr.need1
              rw [List.filter_append, List.length_append]
              simp [hgo]
            rw [this]
          · rw [lup_ne qk, hK]
          · rw [lup_ne qg, hG]
            simp [hgo]
          · rw [lup_same]
            simp [hgo, encN]
        have s2 : 2 ≤ sizeLine := sz (by decide)
        have lenG : ((n.gone tc i ++ (pre.filter (n.goes tc i)).map (pN i)).map ipL).length < sizeLine := szl (by
          have := List.length_filter_le (n.goes tc i) pre
          simp only [List.length_map, List.length_append]
          omega)
        have lenF : ((pre.filter fun e => !n.goes tc i e).map encN).length < sizeLine := szl (by
          have := List.length_filter_le (fun e => !n.goes tc i e) pre
          simp only [List.length_map]
          omega)
        have apG : ∀ Q v, lAppend (.ref g) [v] L' Q = Q .non (lup L' g (.lst ((n.gone tc i ++ (pre.filter (n.goes tc i)).map (pN i)).map ipL ++ [v]))) := fun Q v => by
          rw [mt_app hG]
          exact propext ⟨fun z => z.2, fun z => ⟨lenG, z⟩⟩
        have apF : ∀ Q v, lAppend (.ref q) [v] L' Q = Q .non (lup L' q (.lst ((pre.filter fun e => !n.goes tc i e).map encN ++ [v]))) := fun Q v => by
          rw [mt_app hF]
          exact propext ⟨fun z => z.2, fun z => ⟨lenF, z⟩⟩
        have nd1 : ∀ Q o, brF G.cN "needless" (.ref a) Q (lup L' g o) = Q (.int (n.ndl + (n.need tc i + n.need1 tc i pre))) (lup L' g o) := fun Q o => fN_ndl (n := { n with ndl := n.ndl + (n.need tc i + n.need1 tc i pre) }) (aw := aw) (ak := ak) (by rw [lup_ne ga]; exact hA)
        have nd2 : ∀ N' v o, brP G.cN "needless" (.int v) (.ref a) N' (lup L' g o) = N' (lup (lup L' g o) a (rtN G { n with ndl := v } aw ak)) := fun N' v o => pN_ndl (n := { n with ndl := n.ndl + (n.need tc i + n.need1 tc i pre) }) (aw := aw) (ak := ak) (by rw [lup_ne ga]; exact hA)
        have tyG := tyL_rl hG
        have tyF := tyL_rl hF
        rw [fN_rule hA]
        by_cases c1 : n.rule = "just"
        · have hgo : n.goes tc i e = !n.same i e := by unfold Nr.goes; rw [if_pos c1]
          cases hs : n.same i e with
          | true =>
            rw [hs] at hgo tailL
            have t := tailL hgo
            simp [c1, tyF, apF, s2]
            simpa using t
          | false =>
            rw [hs] at hgo tailG
            have t := tailG hgo
            simp [c1, tyG, apG, nd1, nd2, s2]
            simpa [c1] using t
        · have hgo : n.goes tc i e = tc i e.1 := by unfold Nr.goes; rw [if_neg c1]
          have hin : (vl kvs (kI i e.1)).isSome = tc i e.1 := hT i e.1 hlt (List.mem_map.mpr ⟨e, by rw [← hpr]; simp, rfl⟩)
          cases ht : tc i e.1 with
          | true =>
            rw [ht] at hgo hin
            have t := tailG hgo
            simp [c1, tyG, apG, nd1, nd2, s2, in_dt hpL, hin]
            simpa using t
          | false =>
            rw [ht] at hgo hin
            have t := tailL hgo
            simp [c1, tyF, apF, s2, in_dt hpL, hin]
            simpa using t
end LK
set_option Elab.async false
set_option linter.all false
set_option maxRecDepth 100000
set_option maxHeartbeats 1000000
/-! Nears, plainly: steps. -/
namespace LK
open PySem PySem.Spec PyProof.Rows L2
def Stp.tk : Stp → Int × Option Str
  | .add _ => (0, none)
  | .put k d _ => (k, some d)
  | .drop k d => (k, some d)
  | .turn k _ => (k, none)
  | .ask _ _ => (0, none)
def Nr.tcs (n : Nr) (s : Stp) : TC := n.tb s.tk.1 s.tk.2
def Nr.wd (n : Nr) (w : Wd) : Nr := { n with w := w }
/-- a change but add -/
def Nr.chg (n : Nr) (s : Stp) : Nr := (n.wd (n.w.app s)).fgot (n.tcs s)
def Nr.told (n : Nr) (s : Stp) : List (Int × Int) := srt ((n.wd (n.w.app s)).gone (n.tcs s) n.sp.length)
def Nr.chkA (n : Nr) (i k : Int) : Option Er := if 0 ≤ i ∧ i < n.sp.length then if n.w.okK k then none else some .noKind else some .noSpot
def Nr.oth (n : Nr) (i k : Nat) : List Ent := (n.at i).filter fun e => !decide (e.1 = k)
def Nr.asked (n : Nr) (i k : Nat) : Nr := match vl (n.at i) k with
  | some f => { n with hits := n.hits + 1, kept := n.kept.set i (n.oth i k ++ [(k, f)]) }
  | none => if n.wide ≤ (n.oth i k).length then { n with misses := n.misses + 1, thr := n.thr + 1, kept := n.kept.set i ((n.oth i k).drop 1 ++ [(k, n.w.fnd k (n.lt i))]) }
    else { n with misses := n.misses + 1, kept := n.kept.set i (n.oth i k ++ [(k, n.w.fnd k (n.lt i))]) }
def Nr.ans (n : Nr) (i k : Nat) : Option (Nat × Int) × Bool := match vl (n.at i) k with
  | some f => (f, true)
  | none => (n.w.fnd k (n.lt i), false)
theorem app_len {w : Wd} {s : Stp} (h : ∀ e, s ≠ .add e) : (w.app s).el.length = w.el.length := by
  cases s with
  | add e => exact absurd rfl (h e)
  | turn k e => simp [Wd.app]
  | _ => rfl
theorem Nok.wd {n : Nr} (ok : Nok n) {w : Wd} (hw : Wok w) (h : n.w.el.length ≤ w.el.length) : Nok (n.wd w) := ⟨hw, ok.len, ok.lo, ok.hi, ok.ltr, ok.wlo, ok.whi, ok.rl, ok.kl, ok.kn, fun es h1 e h2 => Nat.lt_of_lt_of_le (ok.kv es h1 e h2) h⟩
theorem leftK_all {n : Nr} {tc : TC} (h : n.kept.length = n.sp.length) : n.leftK tc n.sp.length = (List.range n.sp.length).map (n.left tc) := by
  unfold Nr.leftK
  rw [List.drop_eq_nil_of_le (by omega), List.append_nil]
theorem fgot_at {n : Nr} (ok : Nok n) {tc : TC} {i : Nat} (hi : i < n.sp.length) : (n.fgot tc).at i = n.left tc i := by
  show ((n.leftK tc n.sp.length)[i]?).getD [] = _
  rw [leftK_all ok.len, List.getElem?_map, List.getElem?_range hi]
  rfl
theorem Nok.fgot {n : Nr} (ok : Nok n) (tc : TC) : Nok (n.fgot tc) := by
  have key : ∀ es ∈ (n.fgot tc).kept, ∃ i, i < n.sp.length ∧ es = n.left tc i := fun es h => by
    have h' : es ∈ n.leftK tc n.sp.length := h
    rw [leftK_all ok.len] at h'
    obtain ⟨i, hi, e⟩ := List.mem_map.mp h'
    exact ⟨i, List.mem_range.mp hi, e.symm⟩
  refine ⟨ok.w, ?_, ok.lo, ok.hi, ok.ltr, ok.wlo, ok.whi, ok.rl, ?_, ?_, ?_⟩
  · show (n.leftK tc n.sp.length).length = n.sp.length
    rw [leftK_all ok.len]
    simp
  · intro es h
    obtain ⟨i, hi, rfl⟩ := key es h
    exact Nat.le_trans (List.length_filter_le _ _) (ok.kl _ (Nr.at_some ok hi).2)
  · intro es h
    obtain ⟨i, hi, rfl⟩ := key es h
    exact List.Sublist.nodup (List.Sublist.map _ List.filter_sublist) (ok.kn _ (Nr.at_some ok hi).2)
  · intro es h e he
    obtain ⟨i, hi, rfl⟩ := key es h
    exact ok.kv _ (Nr.at_some ok hi).2 e (List.mem_filter.mp he).1
theorem Nok.chg {n : Nr} (ok : Nok n) {s : Stp} (h : ∀ e, s ≠ .add e) (hs : n.w.chk s = none) : Nok (n.chg s) := (ok.wd (ok.w.app hs) (Nat.le_of_eq (app_len h).symm)).fgot _
theorem Nok.add {n : Nr} (ok : Nok n) {e : Option Int} (hs : n.w.chk (.add e) = none) : Nok (n.wd (n.w.app (.add e))) := ok.wd (ok.w.app hs) (by simp [Wd.app])
theorem vl_mem {κ α : Type} [DecidableEq κ] {kvs : List (κ × α)} {k : κ} {v : α} (h : vl kvs k = some v) : (k, v) ∈ kvs := by
  induction kvs with
  | nil => cases h
  | cons p kvs ih =>
    obtain ⟨a, b⟩ := p
    rw [vl_cons] at h
    by_cases e : a = k
    · rw [if_pos e] at h
      cases h
      rw [e]
      exact List.mem_cons_self
    · rw [if_neg e] at h
      exact List.mem_cons_of_mem _ (ih h)
theorem vl_no {κ α : Type} [DecidableEq κ] {kvs : List (κ × α)} {k : κ} (h : vl kvs k = none) : ∀ p ∈ kvs, p.1 ≠ k := fun p hp e => by
  rw [vl_none] at h
  exact h (List.any_eq_true.mpr ⟨p, hp, by simp [e]⟩)
theorem oth_none {n : Nr} {i k : Nat} (h : vl (n.at i) k = none) : n.oth i k = n.at i := by
  unfold Nr.oth
  rw [List.filter_eq_self]
  intro p hp
  have := vl_no h p hp
  simp [this]
theorem oth_lt {n : Nr} {i k : Nat} {f : Option (Nat × Int)} (h : vl (n.at i) k = some f) : (n.oth i k).length < (n.at i).length := by
  have := vl_mem h
  unfold Nr.oth
  exact List.length_filter_lt_length_iff_exists.mpr ⟨(k, f), this, by simp⟩
theorem nodup_snoc {es : List Ent} {k : Nat} {f : Option (Nat × Int)} (h : (es.map (·.1)).Nodup) (h2 : ∀ e ∈ es, e.1 ≠ k) : ((es ++ [(k, f)]).map (·.1)).Nodup := by
  rw [List.map_append, List.nodup_append]
  refine ⟨h, by simp, fun a ha b hb e => ?_⟩
  obtain ⟨x, hx, rfl⟩ := List.mem_map.mp ha
  have : b = k := by simpa using hb
  exact h2 x hx (e.trans this)
theorem Nok.kset {n : Nr} (ok : Nok n) {i : Nat} {es : List Ent} (h1 : es.length ≤ n.wide) (h2 : (es.map (·.1)).Nodup) (h3 : ∀ e ∈ es, e.1 < n.w.el.length) {n' : Nr} (e : n'.kept = n.kept.set i es) (e2 : n'.sp = n.sp) (e3 : n'.wide = n.wide) (e4 : n'.rule = n.rule) (e5 : n'.w = n.w) : Nok n' := by
  refine ⟨by rw [e5]; exact ok.w, by rw [e, e2, List.length_set]; exact ok.len, by rw [e2]; exact ok.lo, by rw [e2]; exact ok.hi, by rw [e2]; exact ok.ltr, by rw [e3]; exact ok.wlo, by rw [e3]; exact ok.whi, by rw [e4]; exact ok.rl, ?_, ?_, ?_⟩
  · rw [e, e3]
    intro x hx
    rcases List.mem_or_eq_of_mem_set hx with hx | hx
    · exact ok.kl x hx
    · rw [hx]; exact h1
  · rw [e]
    intro x hx
    rcases List.mem_or_eq_of_mem_set hx with hx | hx
    · exact ok.kn x hx
    · rw [hx]; exact h2
  · rw [e, e5]
    intro x hx
    rcases List.mem_or_eq_of_mem_set hx with hx | hx
    · exact ok.kv x hx
    · rw [hx]; exact h3
theorem Nok.asked {n : Nr} (ok : Nok n) {i k : Nat} (hi : i < n.sp.length) (hk : k < n.w.el.length) : Nok (n.asked i k) := by
  have hm := (Nr.at_some ok hi).2
  have ndo : ((n.oth i k).map (·.1)).Nodup := List.Sublist.nodup (List.Sublist.map _ List.filter_sublist) (ok.kn _ hm)
  have neo : ∀ e ∈ n.oth i k, e.1 ≠ k := fun e he => by simpa using (List.mem_filter.mp he).2
  have vo : ∀ e ∈ n.oth i k, e.1 < n.w.el.length := fun e he => ok.kv _ hm e (List.mem_filter.mp he).1
  have lo := ok.kl _ hm
  have lf : (n.oth i k).length ≤ (n.at i).length := List.length_filter_le _ _
  have snv : ∀ (es : List Ent) f, (∀ e ∈ es, e ∈ n.oth i k) → ∀ e ∈ es ++ [(k, f)], e.1 < n.w.el.length := fun es f hs e he => by
    rcases List.mem_append.mp he with he | he
    · exact vo e (hs e he)
    · have : e = (k, f) := List.mem_singleton.mp he
      rw [this]; exact hk
  unfold Nr.asked
  split
  · rename_i f hf
    have := oth_lt hf
    exact ok.kset (es := n.oth i k ++ [(k, f)]) (by rw [List.length_append]; simp; omega) (nodup_snoc ndo neo) (snv _ _ fun e h => h) rfl rfl rfl rfl rfl
  · rename_i hf
    split
    · rename_i hw
      have wlo := ok.wlo
      refine ok.kset (es := (n.oth i k).drop 1 ++ [(k, n.w.fnd k (n.lt i))]) (by rw [List.length_append, List.length_drop]; simp; omega) (nodup_snoc (List.Sublist.nodup (List.Sublist.map _ (List.drop_sublist _ _)) ndo) fun e h => neo e (List.mem_of_mem_drop h)) (snv _ _ fun e h => List.mem_of_mem_drop h) rfl rfl rfl rfl rfl
    · rename_i hw
      exact ok.kset (es := n.oth i k ++ [(k, n.w.fnd k (n.lt i))]) (by rw [List.length_append]; simp; omega) (nodup_snoc ndo neo) (snv _ _ fun e h => h) rfl rfl rfl rfl rfl
end LK
set_option Elab.async false
set_option linter.all false
set_option maxRecDepth 100000
set_option maxHeartbeats 1000000
/-! Near: its methods. -/
namespace LK
open PySem PySem.Spec PyProof.Rows L2
theorem ret_tupfrz {Q : QL} {v : LV} {q : Addr} {ls : List LV} {L : LHp} (e : L q = some (.lst ls)) (h : Q (.tup [v, .lst ls]) (ler L q)) : retA Q (.tup [v, .ref q]) L := by
  refine ⟨.tup [v, .lst ls], ler L q, fun K H x r rv => ?_, h⟩
  obtain ⟨xs, hx, rx⟩ := r.lst e
  obtain ⟨p, ys, rfl, f, ry⟩ := rv.tup_inv
  obtain ⟨y1, y2, rfl, r1, r2⟩ := ry.two
  rw [r2.ref_inv] at f
  refine ⟨r.let_go, .of_tup (f.ext .let_go) (.cons (RV.ext .let_go _ _ r1) (.cons (.of_lst ⟨ler_same, hx⟩ (rx.ext .let_go)) .nil)), fun b hb => (Ext.let_go (H := fun _ => some (.lst [])) b _ rfl (fun _ z => nomatch z) hb).1⟩
theorem sub_lup {L : LHp} {p : Addr} {o : LO} (h : L p = none) : Sub L (lup L p o) := fun a => by
  by_cases e : a = p
  · rw [e]; exact .inl h
  · rw [lup_ne e]; exact .inr rfl
variable {G : GA} {L : LHp} {a : Addr} {n : Nr} {S : List Addr} {Q : QL} {E : XL} {m : Nat}
/-- a change of the world within -/
theorem IsN.wd {aw ak : Addr} {Sw : List Addr} {L' : LHp} {w' : Wd} (nd : (a :: ak :: Sw).Nodup) (ha : L a = some (rtN G n aw ak)) (hk : L ak = some (.lst (n.kept.map encL))) (hw : IsW (rtW G) L' aw w' Sw) (fr : Frame Sw L L') : IsN G L' a (n.wd w') (a :: ak :: Sw) := by
  simp only [List.nodup_cons, List.mem_cons, not_or] at nd
  exact ⟨aw, ak, Sw, rfl, by simp only [List.nodup_cons, List.mem_cons, not_or]; exact nd, fr.get nd.1.2 ha, fr.get nd.2.1 hk, hw⟩
/-- what a change tells, done to a Near: what stands behind it -/
def ChgTo (G : GA) (L : LHp) (a : Addr) (n : Nr) (S : List Addr) (s : Stp) (Q : QL) : Prop := ∀ L' q, L q = none → L' q = some (.lst ((n.told s).map ipL)) → IsN G L' a (n.chg s) S → Frame S L L' → retA Q (.tup [.non, .ref q]) L'
theorem near_chg (hm : 3 ≤ m) (ok : Nok n) {s : Stp} (hs : ∀ e, s ≠ .add e) (hc : n.w.chk s = none) {aw ak p : Addr} {Sw : List Addr} {kvs : List (List Key × LV)} {L' : LHp} (nd : (a :: ak :: Sw).Nodup) (ha : L a = some (rtN G n aw ak)) (hk : L ak = some (.lst (n.kept.map encL))) (hwo : IsW (rtW G) L aw n.w Sw)
    (hp : L p = none) (hT : Tch n s.tk.1 s.tk.2 kvs) (hw : IsW (rtW G) L' aw (n.w.app s) Sw) (fr : Frame Sw (lup L p (.dtt kvs)) L') (h : ChgTo G L a n (a :: ak :: Sw) s Q) :
    cwk G m .Near_forget [.ref a, .ref p] L' (fun v L1 => 2 ≤ sizeLine ∧ retA Q (.tup [.non, v]) L1) E := by
  have pS : p ∉ Sw := fun hx => hwo.sm p hx hp
  have ok' := ok.wd (ok.w.app hc) (Nat.le_of_eq (app_len hs).symm)
  have pa := lists_ne hp ha
  have pk := lists_ne hp hk
  have hN : IsN G L' a (n.wd (n.w.app s)) (a :: ak :: Sw) := IsN.wd (L := lup L p (.dtt kvs)) nd (by rw [lup_ne pa]; exact ha) (by rw [lup_ne pk]; exact hk) hw fr
  have nL : ∀ q, L' q = none → L q = none := fun q hq => by
    cases e : L q with
    | none => rfl
    | some o =>
      by_cases c : q ∈ Sw
      · exact absurd hq (hw.sm q c)
      · have qp : q ≠ p := lists_ne hp e
        have := fr.get (o := o) c (by rw [lup_ne qp]; exact e)
        rw [hq] at this
        cases this
  refine forget_s (tc := n.tcs s) hm ok' hN (fr.get pS lup_same) (fun i k h1 h2 => hT i k h1 h2) fun L2 q hq hl hN2 fr2 => ?_
  refine ⟨sz (by decide), h L2 q (nL q hq) hl hN2 ?_⟩
  intro x h1 h2
  have xp : x ≠ p := fun e => h2 (e ▸ hp)
  have h3 : x ∉ Sw := fun z => h1 (by simp [z])
  have h4 : (lup L p (.dtt kvs)) x ≠ none := by rw [lup_ne xp]; exact h2
  rw [fr2 x h1 (fr.keep x h3 h4), fr x h3 h4, lup_ne xp]
theorem nput_s {k : Int} {d : Str} {b : Int} (hm : 4 ≤ m) (ok : Nok n) (hl : d.length ≤ sizeLine) (hN : IsN G L a n S) (hok : n.w.chk (.put k d b) = none → ChgTo G L a n S (.put k d b) Q) (hno : ∀ x, n.w.chk (.put k d b) = some x → E (x.at G) L) : cwk G m .Near_put [.ref a, .int k, .str d, .int b] L Q E := by
  obtain ⟨m, rfl⟩ := Nat.exists_eq_add_of_le' hm
  show bodyC 4 5 (B_Near_put G (cwk G (m + 3))) _ _ _ _
  refine ⟨rfl, ?_⟩
  unfold B_Near_put
  have hN' := hN
  obtain ⟨aw, ak, Sw, rfl, nd, ha, hk, hw⟩ := hN
  have m1 : ∀ f, brM G.cN "touched_by" (.ref a) f L = f a L := fun f => nmeth ha
  simp [m1]
  refine touched_s (d := some d) (by omega) ok hN' fun p kvs hp hT => ?_
  have pa := lists_ne hp ha
  have hw2 : IsW (rtW G) (lup L p (.dtt kvs)) aw n.w Sw := hw.mono fun x hx => lup_ne fun e => hw.sm x hx (e ▸ hp)
  have f1 : ∀ Q, brF G.cN "world" (.ref a) Q (lup L p (.dtt kvs)) = Q (.ref aw) (lup L p (.dtt kvs)) := fun Q => fN_world (by rw [lup_ne pa]; exact ha)
  have m2 : ∀ f, brM G.cW "put" (.ref aw) f (lup L p (.dtt kvs)) = f aw (lup L p (.dtt kvs)) := fun f => by
    obtain ⟨le, lo, ds, _, _, haw, _⟩ := hw2
    exact brM_of haw (by rfl)
  simp [f1, m2]
  refine put_s (by omega) ok.w hl hw2 (fun hc L' hw3 fr => ?_) fun x hx => ex_sub (sub_lup hp) (hno x hx)
  have m3 : ∀ f, brM G.cN "forget" (.ref a) f L' = f a L' := fun f => nmeth (n := n) (aw := aw) (ak := ak) (fr.get (by simp at nd; exact nd.1.2) (by rw [lup_ne pa]; exact ha))
  simp [m3]
  exact near_chg (s := .put k d b) (by omega) ok (fun e => nofun) hc nd ha hk hw hp hT hw3 fr (hok hc)
theorem ndrop_s {k : Int} {d : Str} (hm : 4 ≤ m) (ok : Nok n) (hl : d.length ≤ sizeLine) (hN : IsN G L a n S) (hok : n.w.chk (.drop k d) = none → ChgTo G L a n S (.drop k d) Q) (hno : ∀ x, n.w.chk (.drop k d) = some x → E (x.at G) L) : cwk G m .Near_drop [.ref a, .int k, .str d] L Q E := by
  obtain ⟨m, rfl⟩ := Nat.exists_eq_add_of_le' hm
  show bodyC 3 4 (B_Near_drop G (cwk G (m + 3))) _ _ _ _
  refine ⟨rfl, ?_⟩
  unfold B_Near_drop
  have hN' := hN
  obtain ⟨aw, ak, Sw, rfl, nd, ha, hk, hw⟩ := hN
  have m1 : ∀ f, brM G.cN "touched_by" (.ref a) f L = f a L := fun f => nmeth ha
  simp [m1]
  refine touched_s (d := some d) (by omega) ok hN' fun p kvs hp hT => ?_
  have pa := lists_ne hp ha
  have hw2 : IsW (rtW G) (lup L p (.dtt kvs)) aw n.w Sw := hw.mono fun x hx => lup_ne fun e => hw.sm x hx (e ▸ hp)
  have f1 : ∀ Q, brF G.cN "world" (.ref a) Q (lup L p (.dtt kvs)) = Q (.ref aw) (lup L p (.dtt kvs)) := fun Q => fN_world (by rw [lup_ne pa]; exact ha)
  have m2 : ∀ f, brM G.cW "drop" (.ref aw) f (lup L p (.dtt kvs)) = f aw (lup L p (.dtt kvs)) := fun f => by
    obtain ⟨le, lo, ds, _, _, haw, _⟩ := hw2
    exact brM_of haw (by rfl)
  simp [f1, m2]
  refine drop_s (by omega) ok.w hl hw2 (fun hc L' hw3 fr => ?_) fun x hx => ex_sub (sub_lup hp) (hno x hx)
  have m3 : ∀ f, brM G.cN "forget" (.ref a) f L' = f a L' := fun f => nmeth (n := n) (aw := aw) (ak := ak) (fr.get (by simp at nd; exact nd.1.2) (by rw [lup_ne pa]; exact ha))
  simp [m3]
  exact near_chg (s := .drop k d) (by omega) ok (fun e => nofun) hc nd ha hk hw hp hT hw3 fr (hok hc)
theorem nturn_s {k : Int} {e : Option Int} (hm : 4 ≤ m) (ok : Nok n) (hN : IsN G L a n S) (hok : n.w.chk (.turn k e) = none → ChgTo G L a n S (.turn k e) Q) (hno : ∀ x, n.w.chk (.turn k e) = some x → E (x.at G) L) : cwk G m .Near_turn [.ref a, .int k, encO e] L Q E := by
  obtain ⟨m, rfl⟩ := Nat.exists_eq_add_of_le' hm
  show bodyC 3 4 (B_Near_turn G (cwk G (m + 3))) _ _ _ _
  refine ⟨rfl, ?_⟩
  unfold B_Near_turn
  have hN' := hN
  obtain ⟨aw, ak, Sw, rfl, nd, ha, hk, hw⟩ := hN
  have m1 : ∀ f, brM G.cN "touched_by" (.ref a) f L = f a L := fun f => nmeth ha
  simp [m1]
  refine touched_s (d := none) (by omega) ok hN' fun p kvs hp hT => ?_
  have pa := lists_ne hp ha
  have hw2 : IsW (rtW G) (lup L p (.dtt kvs)) aw n.w Sw := hw.mono fun x hx => lup_ne fun e => hw.sm x hx (e ▸ hp)
  have f1 : ∀ Q, brF G.cN "world" (.ref a) Q (lup L p (.dtt kvs)) = Q (.ref aw) (lup L p (.dtt kvs)) := fun Q => fN_world (by rw [lup_ne pa]; exact ha)
  have m2 : ∀ f, brM G.cW "turn" (.ref aw) f (lup L p (.dtt kvs)) = f aw (lup L p (.dtt kvs)) := fun f => by
    obtain ⟨le, lo, ds, _, _, haw, _⟩ := hw2
    exact brM_of haw (by rfl)
  simp [f1, m2]
  refine turn_s (by omega) ok.w hw2 (fun hc L' hw3 fr => ?_) fun x hx => ex_sub (sub_lup hp) (hno x hx)
  have m3 : ∀ f, brM G.cN "forget" (.ref a) f L' = f a L' := fun f => nmeth (n := n) (aw := aw) (ak := ak) (fr.get (by simp at nd; exact nd.1.2) (by rw [lup_ne pa]; exact ha))
  simp [m3]
  exact near_chg (s := .turn k e) (by omega) ok (fun e => nofun) hc nd ha hk hw hp hT hw3 fr (hok hc)
theorem nadd_s {e : Option Int} (hm : 4 ≤ m) (ok : Nok n) (hN : IsN G L a n S) (hok : n.w.chk (.add e) = none → ∀ L' q S', L q = none → L' q = some (.lst []) → IsN G L' a (n.wd (n.w.app (.add e))) S' → q ∉ S' → Frame S L L' → Grow S S' L → retA Q (.tup [.int n.w.el.length, .ref q]) L') (hno : ∀ x, n.w.chk (.add e) = some x → E (x.at G) L) :
    cwk G m .Near_add [.ref a, encO e] L Q E := by
  obtain ⟨m, rfl⟩ := Nat.exists_eq_add_of_le' hm
  show bodyC 2 2 (B_Near_add G (cwk G (m + 3))) _ _ _ _
  refine ⟨rfl, ?_⟩
  unfold B_Near_add
  have hN' := hN
  obtain ⟨aw, ak, Sw, rfl, nd, ha, hk, hw⟩ := hN
  have f1 : ∀ Q, brF G.cN "world" (.ref a) Q L = Q (.ref aw) L := fun Q => fN_world ha
  have m2 : ∀ f, brM G.cW "add" (.ref aw) f L = f aw L := fun f => by
    obtain ⟨le, lo, ds, _, _, haw, _⟩ := hw
    exact brM_of haw (by rfl)
  simp [f1, m2]
  refine add_s (by omega) ok.w hw (fun hc L' Sw' hw3 fr gr sub => ?_) fun x hx => ex_same (hno x hx)
  intro q hq
  refine ⟨sz (by decide), ?_⟩
  have nd' := nd
  simp only [List.nodup_cons, List.mem_cons, not_or] at nd'
  have aS : a ∉ Sw' := fun z => (gr a z).elim nd'.1.2 fun z => by rw [ha] at z; cases z
  have kS : ak ∉ Sw' := fun z => (gr ak z).elim nd'.2.1 fun z => by rw [hk] at z; cases z
  have hA := fr.get nd'.1.2 ha
  have hK := fr.get nd'.2.1 hk
  have hqL : L q = none := by
    cases e : L q with
    | none => rfl
    | some o =>
      by_cases c : q ∈ Sw
      · exact absurd hq (hw3.sm q (sub q c))
      · have := fr.get c e
        rw [hq] at this
        cases this
  have qa := lists_ne hq hA
  have qk := lists_ne hq hK
  have qS : q ∉ Sw' := fun z => hw3.sm q z hq
  refine hok hc _ q (a :: ak :: Sw') hqL lup_same ⟨aw, ak, Sw', rfl, ?_, ?_, ?_, ?_⟩ ?_ ?_ ?_
  · obtain ⟨_, _, _, _, nd3, _⟩ := hw3
    simp only [List.nodup_cons, List.mem_cons, not_or]
    exact ⟨⟨nd'.1.1, aS⟩, kS, nd3⟩
  · rw [lup_ne qa]; exact hA
  · rw [lup_ne qk]; exact hK
  · exact hw3.mono fun x hx => lup_ne fun e => qS (e ▸ hx)
  · simp only [List.mem_cons, not_or]
    exact ⟨Ne.symm qa, Ne.symm qk, qS⟩
  · intro x h1 h2
    have xq : x ≠ q := fun e => h2 (by rw [e]; exact hqL)
    rw [lup_ne xq]
    exact fr x (fun z => h1 (by simp [z])) h2
  · intro x hx
    rcases List.mem_cons.mp hx with rfl | hx
    · exact .inl (by simp)
    rcases List.mem_cons.mp hx with rfl | hx
    · exact .inl (by simp)
    · exact (gr x hx).imp (fun z => by simp [z]) id
theorem need_spot_s {i : Int} (hm : 1 ≤ m) (ok : Nok n) (hN : IsN G L a n S) (hok : 0 ≤ i ∧ i < n.sp.length → Q .non L) (hno : ¬ (0 ≤ i ∧ i < n.sp.length) → E ⟨G.eNoSpot, none⟩ L) : cwk G m .Near_need_spot [.ref a, .int i] L Q E := by
  obtain ⟨m, rfl⟩ := Nat.exists_eq_add_of_le' hm
  show bodyC 2 2 (B_Near_need_spot G (cwk G m)) _ _ _ _
  refine ⟨rfl, ?_⟩
  unfold B_Near_need_spot
  obtain ⟨aw, ak, Sw, rfl, nd, ha, hk, hw⟩ := hN
  have f1 : ∀ Q, brF G.cN "spots" (.ref a) Q L = Q (.str n.sp) L := fun Q => fN_spots ha
  have spl := ok.spl
  by_cases h0 : 0 ≤ i
  · by_cases h1 : i < n.sp.length
    · simp [h0, h1, f1, spl]
      exact retS (hok ⟨h0, h1⟩)
    · simp [h0, h1, f1, spl]
      exact exW (hno fun z => h1 z.2)
  · simp [h0, f1]
    exact exW (hno fun z => h0 z.1)
end LK
set_option Elab.async false
set_option linter.all false
set_option maxRecDepth 100000
set_option maxHeartbeats 1000000
/-! Near: ask, entries. -/
namespace LK
open PySem PySem.Spec PyProof.Rows L2
def entK (es : List Ent) : List (Key × LV) := es.map fun e => (Sum.inl (e.1 : Int), encF e.2)
theorem prs_ent : ∀ es : List Ent, prsOf (es.map encN) = some (entK es)
  | [] => rfl
  | e :: es => by
    simp only [List.map_cons, encN, prsOf, lKey]
    rw [prs_ent es]
    rfl
theorem vl_entK {es : List Ent} {k : Nat} : vl (entK es) (.inl (k : Int)) = (vl es k).map encF := by
  induction es with
  | nil => rfl
  | cons e es ih =>
    obtain ⟨j, f⟩ := e
    simp only [entK, List.map_cons] at ih ⊢
    rw [vl_cons, vl_cons]
    by_cases c : j = k
    · simp [c]
    · have : ¬ ((j : Int) = k) := by omega
      simp [c, this]
      exact ih
theorem vl_mg {kvs : List (Key × LV)} {k : Key} (h : (kvs.map (·.1)).Nodup) : ∀ acc, vl (mg acc kvs) k = (vl kvs k).or (vl acc k) := by
  induction kvs with
  | nil => intro acc; rfl
  | cons p kvs ih =>
    obtain ⟨a, b⟩ := p
    intro acc
    rw [List.map_cons, List.nodup_cons] at h
    show vl (mg (pl acc a b) kvs) k = _
    rw [ih h.2, vl_pl, vl_cons]
    by_cases c : a = k
    · subst c
      have : vl kvs a = none := by
        rw [vl_none]
        intro z
        obtain ⟨p, hp, e⟩ := List.any_eq_true.mp z
        exact h.1 (List.mem_map.mpr ⟨p, hp, by simpa using e⟩)
      simp [this]
    · simp [c]
theorem entK_nodup {es : List Ent} (h : (es.map (·.1)).Nodup) : ((entK es).map (·.1)).Nodup := by
  have : (entK es).map (·.1) = (es.map (·.1)).map fun i : Nat => (Sum.inl (i : Int) : Key) := by
    simp [entK]
  rw [this, List.Nodup, List.pairwise_map]
  exact h.imp fun {a b} hab e => hab (by
    have := Sum.inl.inj e
    omega)
theorem ix_di {L : LHp} {p : Addr} {kvs : List (Key × LV)} {i : Int} {Q : QL} (h : L p = some (.dct kvs)) : lIx (.ref p) (.int i) L Q = onS (vl kvs (.inl i)) Q L := by
  simp only [lIx, h, dAt, lKey, onS, Option.map]
  try (cases vl kvs (.inl i) <;> rfl)
theorem in_di {L : LHp} {p : Addr} {kvs : List (Key × LV)} {i : Int} {ng : Bool} {Q : QL} (h : L p = some (.dct kvs)) : lIn ng (.int i) (.ref p) L Q = Q (.bl (ng != (vl kvs (.inl i)).isSome)) L := by
  simp only [lIn, h, dAt, lKey, Option.map]
theorem cat_l {L : LHp} {ls ms : List LV} {fr : Bool} {Q : QL} (h : ls.length + ms.length ≤ 100000) : lCat fr (.lst ls) (.lst ms) L Q = newL fr (ls ++ ms) L Q := by
  simp only [lCat, lstOf]
  exact propext ⟨fun z => z.2, fun z => ⟨sz h, z⟩⟩
theorem cut_1 {ls : List LV} : cutL ls (some 1) none = ls.drop 1 := by
  unfold cutL
  have h1 : HT.sIx ls.length 0 (some 1) = min 1 ls.length := HT.sIx_nat ls.length 0 1
  have h2 : HT.sIx ls.length ls.length none = ls.length := rfl
  rw [h1, h2]
  cases ls with
  | nil => rfl
  | cons a ls =>
    have : min 1 (a :: ls).length = 1 := by simp
    rw [this]
    simp
variable {G : GA} {L : LHp} {a : Addr} {n : Nr} {S : List Addr} {Q : QL} {E : XL} {m : Nat}
theorem ask_s {i k : Int} (hm : 3 ≤ m) (ok : Nok n) (hN : IsN G L a n S) (hok : n.chkA i k = none → ∀ L', IsN G L' a (n.asked i.toNat k.toNat) S → Frame S L L' → Q (.tup [encF (n.ans i.toNat k.toNat).1, .bl (n.ans i.toNat k.toNat).2]) L') (hno : ∀ x, n.chkA i k = some x → E (x.at G) L) :
    cwk G m .Near_ask [.ref a, .int i, .int k] L Q E := by
  obtain ⟨m, rfl⟩ := Nat.exists_eq_add_of_le' hm
  show bodyC 3 7 (B_Near_ask G (cwk G (m + 2))) _ _ _ _
  refine ⟨rfl, ?_⟩
  unfold B_Near_ask
  have hN' := hN
  obtain ⟨aw, ak, Sw, rfl, nd, ha, hk, hw⟩ := hN
  have m1 : ∀ f, brM G.cN "need_spot" (.ref a) f L = f a L := fun f => nmeth ha
  simp [m1]
  refine need_spot_s (by omega) ok hN' (fun hi => ?_) fun h => exW (hno .noSpot (by simp only [Nr.chkA]; rw [if_neg h]))
  have f1 : ∀ Q, brF G.cN "world" (.ref a) Q L = Q (.ref aw) L := fun Q => fN_world ha
  have f2 : ∀ Q, brF G.cN "kept" (.ref a) Q L = Q (.ref ak) L := fun Q => fN_kept ha
  obtain ⟨le, lo, ds, eS, ndw, haw, hwd⟩ := id hw
  have m2 : ∀ f, brM G.cW "need_kind" (.ref aw) f L = f aw L := fun f => brM_of haw (by rfl)
  simp [f1, m2]
  refine need_kind_s (by omega) haw hwd (fun hkk => ?_) fun h => exW (hno .noKind (by simp only [Nr.chkA]; rw [if_pos hi, if_neg h]))
  have hok2 := hok (by simp only [Nr.chkA]; rw [if_pos hi, if_pos hkk])
  obtain ⟨k, rfl, hk2⟩ := okK_nat hkk
  obtain ⟨i, rfl⟩ : ∃ j : Nat, i = j := ⟨i.toNat, by omega⟩
  have hlt : i < n.sp.length := by omega
  simp only [Int.toNat_natCast] at hok2
  obtain ⟨e1, e2⟩ := Nr.at_some ok hlt
  obtain ⟨en1, en2, en3⟩ := ok.entries hlt
  have ixk : ∀ {L'} (hk' : L' ak = some (.lst (n.kept.map encL))) Q, lIx (.ref ak) (.int i) L' Q = Q (encL (n.at i)) L' := fun hk' Q => by
    rw [ix_r hk', atI_nat (l := encL (n.at i)) (by rw [List.getElem?_map, e1]; rfl)]
    rfl
  simp [f2, ixk hk]
  simp only [lDictP, encL, lstOf, prs_ent, newD]
  intro p hp
  have pa := lists_ne hp ha
  have pk := lists_ne hp hk
  have hvd : ∀ k' : Nat, vl (mg [] (entK (n.at i))) (.inl (k' : Int)) = (vl (n.at i) k').map encF := fun k' => by
    rw [vl_mg (entK_nodup en2), vl_entK]
    simp [vl_nil]
  generalize hD : mg [] (entK (n.at i)) = D at hvd
  have f3 : ∀ Q, brF G.cN "kept" (.ref a) Q (lup L p (.dct D)) = Q (.ref ak) (lup L p (.dct D)) := fun Q => fN_kept (by rw [lup_ne pa]; exact ha)
  simp [f3, ixk (L' := lup L p (.dct D)) (by rw [lup_ne pk]; exact hk), encL]
  refine lc_pure (fun l => match l with
    | .tup (.int j :: _) => if j = k then none else some l
    | _ => none) (by simp; exact sz (by omega)) (fun _ _ _ => trivial) ?_ ?_
  · intro l hl A o K hA q
    obtain ⟨e, he, rfl⟩ := List.mem_map.mp hl
    unfold stepLc
    by_cases c : e.1 = k
    · have c' : ((e.1 : Int) = k) := by omega
      simp [encN, c', lwipe] at q ⊢
      exact q
    · have c' : ¬ ((e.1 : Int) = k) := by omega
      simp [encN, c', lwipe] at q ⊢
      exact q
  have hflt : List.filterMap (fun l => match l with
    | .tup (.int j :: _) => if j = (k : Int) then none else some l
    | _ => none) ((n.at i).map encN) = (n.oth i k).map encN := by
    unfold Nr.oth
    induction n.at i with
    | nil => rfl
    | cons e es ih =>
      rw [List.map_cons, List.filterMap_cons, List.filter_cons, ih]
      by_cases c : e.1 = k
      · have c' : ((e.1 : Int) = k) := by omega
        simp [encN, c]
      · have c' : ¬ ((e.1 : Int) = k) := by omega
        simp [encN, c, c']
  rw [hflt]
  have hA : (lup L p (.dct D)) a = some (rtN G n aw ak) := by rw [lup_ne pa]; exact ha
  have hK : (lup L p (.dct D)) ak = some (.lst (n.kept.map encL)) := by rw [lup_ne pk]; exact hk
  have hDp : (lup L p (.dct D)) p = some (.dct D) := lup_same
  have frp : Frame (a :: ak :: Sw) L (lup L p (.dct D)) := Frame.lup (.inr hp)
  have hW1 : IsW (rtW G) (lup L p (.dct D)) aw n.w Sw := hw.mono fun x hx => lup_ne fun e => hw.sm x hx (e ▸ hp)
  generalize hL1 : lup L p (.dct D) = L1 at *
  rw [in_di hDp, hvd]
  simp only [List.nodup_cons, List.mem_cons, not_or] at nd
  -- the end: one list is another, counts are others
  have fin : ∀ (n' : Nr) (es : List Ent), n'.kept = n.kept.set i es → n'.w = n.w → ∀ L2, (∀ x, x ≠ a → x ≠ ak → L2 x = L1 x) → L2 a = some (rtN G n' aw ak) → L2 ak = some (.lst ((n.kept.map encL).set i (encL es))) → IsN G L2 a n' (a :: ak :: Sw) ∧ Frame (a :: ak :: Sw) L L2 := fun n' es h1 h2 L2 h3 h4 h5 => by
    refine ⟨⟨aw, ak, Sw, rfl, ?_, h4, ?_, ?_⟩, ?_⟩
    · simp only [List.nodup_cons, List.mem_cons, not_or]
      exact nd
    · rw [h5, h1, List.map_set]
    · rw [h2]
      exact hW1.mono fun x hx => h3 x (fun e => nd.1.2 (e ▸ hx)) fun e => nd.2.1 (e ▸ hx)
    · intro x h6 h7
      simp only [List.mem_cons, not_or] at h6
      rw [h3 x h6.1 h6.2.1]
      exact frp x (by simp [h6]) h7
  have s2 : 2 ≤ sizeLine := sz (by decide)
  have s1 : 1 ≤ sizeLine := sz (by decide)
  have hik : i < (n.kept.map encL).length := by rw [List.length_map, ok.len]; exact hlt
  have pa' : p ≠ a := Ne.symm pa
  have pk' : p ≠ ak := Ne.symm pk
  have ka : ak ≠ a := fun e => nd.1.1 e.symm
  have rd : ∀ {L2 : LHp}, L2 p = some (.dct D) → ∀ Q, lIx (.ref p) (.int k) L2 Q = onS ((vl (n.at i) k).map encF) Q L2 := fun h Q => by rw [ix_di h, hvd]
  have ctl : ∀ (es : List Ent) (v : LV) (Q : QL) L2, es.length ≤ 6 → lCat true (.lst (es.map encN)) (.lst [v]) L2 Q = Q (.lst (es.map encN ++ [v])) L2 := fun es v Q L2 h => cat_l (by simp; omega)
  have lo : (n.oth i k).length ≤ 6 := Nat.le_trans (List.length_filter_le _ _) en1
  cases hv : vl (n.at i) k with
  | some f =>
    have eA : n.asked i k = { n with hits := n.hits + 1, kept := n.kept.set i (n.oth i k ++ [(k, f)]) } := by unfold Nr.asked; rw [hv]
    have eB : n.ans i k = (f, true) := by unfold Nr.ans; rw [hv]
    rw [eA, eB] at hok2
    simp [fN_hits hA, pN_hits hA, s1, s2]
    have d1 : ∀ o, (lup L1 a o) p = some (.dct D) := fun o => by rw [lup_ne pa']; exact hDp
    have k1 : ∀ o, (lup L1 a o) ak = some (.lst (n.kept.map encL)) := fun o => by rw [lup_ne ka]; exact hK
    have r1 : ∀ Q, brF G.cN "kept" (.ref a) Q (lup L1 a (rtN G { n with hits := n.hits + 1 } aw ak)) = Q (.ref ak) (lup L1 a (rtN G { n with hits := n.hits + 1 } aw ak)) := fun Q => fN_kept lup_same
    simp [rd (d1 _), hv, ctl _ _ _ _ lo, r1]
    rw [set_l (k1 _) hik]
    rw [rd (by rw [lup_ne pk']; exact d1 _), hv]
    simp
    obtain ⟨g1, g2⟩ := fin { n with hits := n.hits + 1, kept := n.kept.set i (n.oth i k ++ [(k, f)]) } (n.oth i k ++ [(k, f)]) rfl rfl (lup (lup L1 a (rtN G { n with hits := n.hits + 1 } aw ak)) ak (.lst ((n.kept.map encL).set i (.lst ((n.oth i k).map encN ++ [.tup [.int k, encF f]])))))
      (fun x h1 h2 => by rw [lup_ne h2, lup_ne h1]) (by rw [lup_ne (Ne.symm ka), lup_same]; rfl) (by rw [lup_same]; simp [encL, encN])
    exact retS (hok2 _ g1 g2)
  | none =>
    have eB : n.ans i k = (n.w.fnd k (n.lt i), false) := by unfold Nr.ans; rw [hv]
    rw [eB] at hok2
    simp [fN_misses hA, pN_misses hA]
    have d1 : ∀ o, (lup L1 a o) p = some (.dct D) := fun o => by rw [lup_ne pa']; exact hDp
    have k1 : ∀ o, (lup L1 a o) ak = some (.lst (n.kept.map encL)) := fun o => by rw [lup_ne ka]; exact hK
    have w1 : ∀ o, IsW (rtW G) (lup L1 a o) aw n.w Sw := fun o => hW1.mono fun x hx => lup_ne fun e => nd.1.2 (e ▸ hx)
    have w2 : ∀ f o, brM G.cW "found_by" (.ref aw) f (lup L1 a o) = f aw (lup L1 a o) := fun f o => by
      obtain ⟨le, lo, ds, _, _, haw, _⟩ := w1 o
      exact brM_of haw (by rfl)
    have r1 : ∀ n' Q, brF G.cN "kept" (.ref a) Q (lup L1 a (rtN G n' aw ak)) = Q (.ref ak) (lup L1 a (rtN G n' aw ak)) := fun n' Q => fN_kept lup_same
    have r2 : ∀ n' Q, brF G.cN "wide" (.ref a) Q (lup L1 a (rtN G n' aw ak)) = Q (.int n'.wide) (lup L1 a (rtN G n' aw ak)) := fun n' Q => fN_wide lup_same
    have r3 : ∀ n' Q, brF G.cN "thrown" (.ref a) Q (lup L1 a (rtN G n' aw ak)) = Q (.int n'.thr) (lup L1 a (rtN G n' aw ak)) := fun n' Q => fN_thr lup_same
    have r4 : ∀ n' Q, brF G.cN "world" (.ref a) Q (lup L1 a (rtN G n' aw ak)) = Q (.ref aw) (lup L1 a (rtN G n' aw ak)) := fun n' Q => fN_world lup_same
    have r5 : ∀ n' Q, brF G.cN "spots" (.ref a) Q (lup L1 a (rtN G n' aw ak)) = Q (.str n'.sp) (lup L1 a (rtN G n' aw ak)) := fun n' Q => fN_spots lup_same
    have r6 : ∀ n' N v, brP G.cN "thrown" (.int v) (.ref a) N (lup L1 a (rtN G n' aw ak)) = N (lup L1 a (rtN G { n' with thr := v } aw ak)) := fun n' N v => by rw [pN_thr lup_same, lup_lup]
    have x2 : ∀ Q o, lIx (.str n.sp) (.int i) (lup L1 a o) Q = Q (.str (n.lt i)) (lup L1 a o) := fun Q o => ix_s ok.spl hlt
    -- the tail behind what is thrown
    by_cases cw : n.wide ≤ (n.oth i k).length
    · have eA : n.asked i k = { n with misses := n.misses + 1, thr := n.thr + 1, kept := n.kept.set i ((n.oth i k).drop 1 ++ [(k, n.w.fnd k (n.lt i))]) } := by unfold Nr.asked; rw [hv]; simp only; rw [if_pos cw]
      rw [eA] at hok2
      have cw' : (n.wide : Int) ≤ ((n.oth i k).length : Int) := by omega
      simp [r2, cw', r3, r6, lSl, lstOf, cut_1, r4, w2, r5, x2]
      refine found_by_s (by omega) ok.w hk2 (w1 _) ?_
      have lo2 : ((n.oth i k).drop 1).length ≤ 6 := by rw [List.length_drop]; omega
      have e3 : List.drop 1 ((n.oth i k).map encN) = ((n.oth i k).drop 1).map encN := by rw [List.map_drop]
      simp only [List.drop_one] at e3 lo2
      simp [s1, s2]
      rw [e3]
      rw [ctl _ _ _ _ (by simpa using lo2), r1, set_l (k1 _) hik]
      simp [s2]
      obtain ⟨g1, g2⟩ := fin { n with misses := n.misses + 1, thr := n.thr + 1, kept := n.kept.set i ((n.oth i k).drop 1 ++ [(k, n.w.fnd k (n.lt i))]) } ((n.oth i k).drop 1 ++ [(k, n.w.fnd k (n.lt i))]) rfl rfl (lup (lup L1 a (rtN G { n with misses := n.misses + 1, thr := n.thr + 1 } aw ak)) ak (.lst ((n.kept.map encL).set i (.lst (((n.oth i k).drop 1).map encN ++ [.tup [.int k, encF (n.w.fnd k (n.lt i))]])))))
        (fun x h1 h2 => by rw [lup_ne h2, lup_ne h1]) (by rw [lup_ne (Ne.symm ka), lup_same]; rfl) (by rw [lup_same]; simp [encL, encN])
      simp only [List.drop_one] at g1 g2 hok2
      rw [show (List.map encN (n.oth i k)).tail = List.map encN (n.oth i k).tail from List.map_tail.symm]
      exact retS (hok2 _ g1 g2)
    · have eA : n.asked i k = { n with misses := n.misses + 1, kept := n.kept.set i (n.oth i k ++ [(k, n.w.fnd k (n.lt i))]) } := by unfold Nr.asked; rw [hv]; simp only; rw [if_neg cw]
      rw [eA] at hok2
      have cw' : ¬ (n.wide : Int) ≤ ((n.oth i k).length : Int) := by omega
      simp [r2, cw', r4, w2, r5, x2]
      refine found_by_s (by omega) ok.w hk2 (w1 _) ?_
      simp only [s1, s2, true_and]
      rw [ctl _ _ _ _ lo, r1, set_l (k1 _) hik]
      obtain ⟨g1, g2⟩ := fin { n with misses := n.misses + 1, kept := n.kept.set i (n.oth i k ++ [(k, n.w.fnd k (n.lt i))]) } (n.oth i k ++ [(k, n.w.fnd k (n.lt i))]) rfl rfl (lup (lup L1 a (rtN G { n with misses := n.misses + 1 } aw ak)) ak (.lst ((n.kept.map encL).set i (.lst ((n.oth i k).map encN ++ [.tup [.int k, encF (n.w.fnd k (n.lt i))]])))))
        (fun x h1 h2 => by rw [lup_ne h2, lup_ne h1]) (by rw [lup_ne (Ne.symm ka), lup_same]; rfl) (by rw [lup_same]; simp [encL, encN])
      exact retS (hok2 _ g1 g2)
theorem entries_s {i : Int} (hm : 2 ≤ m) (ok : Nok n) (hN : IsN G L a n S) (hok : 0 ≤ i ∧ i < n.sp.length → ∀ q, L q = none → retA Q (.ref q) (lup L q (.lst ((n.at i.toNat).map encN)))) (hno : ¬ (0 ≤ i ∧ i < n.sp.length) → E ⟨G.eNoSpot, none⟩ L) : cwk G m .Near_entries [.ref a, .int i] L Q E := by
  obtain ⟨m, rfl⟩ := Nat.exists_eq_add_of_le' hm
  show bodyC 2 2 (B_Near_entries G (cwk G (m + 1))) _ _ _ _
  refine ⟨rfl, ?_⟩
  unfold B_Near_entries
  have hN' := hN
  obtain ⟨aw, ak, Sw, rfl, nd, ha, hk, hw⟩ := hN
  have m1 : ∀ f, brM G.cN "need_spot" (.ref a) f L = f a L := fun f => nmeth ha
  have f2 : ∀ Q, brF G.cN "kept" (.ref a) Q L = Q (.ref ak) L := fun Q => fN_kept ha
  simp [m1]
  refine need_spot_s (by omega) ok hN' (fun hi => ?_) fun h => exW (hno h)
  have hh := hok hi
  obtain ⟨i, rfl⟩ : ∃ j : Nat, i = j := ⟨i.toNat, by omega⟩
  have hlt : i < n.sp.length := by omega
  obtain ⟨e1, e2⟩ := Nr.at_some ok hlt
  simp [f2]
  rw [ix_r hk, atI_nat (l := encL (n.at i)) (by rw [List.getElem?_map, e1]; rfl)]
  simp [encL]
  exact hh
end LK
set_option Elab.async false
set_option linter.all false
set_option maxRecDepth 100000
set_option maxHeartbeats 1000000
/-! The drawer. -/
namespace LK
open PySem PySem.Spec PyProof.Rows L2
def IsH (L : LHp) (h : Addr) (S : List Addr) : Prop := ∃ q, S = [h, q] ∧ h ≠ q ∧ ∃ (mx pl : Int) (cs : List Int), L h = some (.lst [.int mx, .ref q, .int pl]) ∧ L q = some (.lst (cs.map LV.int))
theorem IsH.mono {L L' : LHp} {h : Addr} {S : List Addr} (hh : IsH L h S) (m : ∀ x, x ∈ S → L' x = L x) : IsH L' h S := by
  obtain ⟨q, rfl, ne, mx, pl, cs, h1, h2⟩ := hh
  exact ⟨q, rfl, ne, mx, pl, cs, by rw [m _ (by simp)]; exact h1, by rw [m _ (by simp)]; exact h2⟩
theorem IsH.sm {L : LHp} {h : Addr} {S : List Addr} (hh : IsH L h S) : ∀ x, x ∈ S → L x ≠ none := by
  obtain ⟨q, rfl, ne, mx, pl, cs, h1, h2⟩ := hh
  intro x hx
  rcases List.mem_cons.mp hx with rfl | hx
  · rw [h1]; exact fun z => nomatch z
  · have : x = q := List.mem_singleton.mp hx
    rw [this, h2]; exact fun z => nomatch z
theorem ints_dat : ∀ cs : List Int, ∃ ds, datAll (cs.map LV.int) = some ds ∧ PyData.canLayAll0 ds = true ∧ PyData.depthAll ds = 0 ∧ (ds = [] ↔ cs = [])
  | [] => ⟨[], by simp [datAll], by simp [PyData.canLayAll0], by simp [PyData.depthAll], by simp⟩
  | c :: cs => by
    obtain ⟨ds, h1, h2, h3, _⟩ := ints_dat cs
    exact ⟨.int c :: ds, by simp [datAll, LV.dat, h1], by simp [PyData.canLayAll0, PyData.canLay0, h2], by simp [PyData.depthAll, PyData.depth, h3], by simp⟩
theorem eq_nil {L : LHp} {q : Addr} {cs : List Int} {ng : Bool} {Q : QL} (h : L q = some (.lst (cs.map LV.int))) (k : Q (.bl (ng != decide (cs = []))) L) : lEq ng (.ref q) (.lst []) L Q := by
  obtain ⟨ds, h1, h2, h3, h4⟩ := ints_dat cs
  refine ⟨.list ds, .list [], ?_, ?_, ?_, ?_, ?_⟩
  · simp [datOf, h, h1]
  · simp [datOf, LV.dat, datAll]
  · exact tre_shaped (n := 1) (by simpa [PyData.canLay0] using h2) (by simp only [PyData.depth]; omega) (by omega)
  · rfl
  · have : PyData.eqv (.list ds) (.list []) = decide (cs = []) := by
      by_cases c : cs = []
      · have := h4.mpr c
        subst this
        rw [decide_eq_true c]
        rfl
      · rw [decide_eq_false c]
        cases ds with
        | nil => exact absurd (h4.mp rfl) c
        | cons d ds => rfl
    rw [this]
    exact k
variable {G : GA} {L : LHp} {h : Addr} {S : List Addr} {Q : QL} {E : XL} {m : Nat}
theorem next_s {many : Int} (hm : 1 ≤ m) (h0 : 0 < many) (h1 : many < 1073741824) (hh : IsH L h S) (k : ∀ L' r, 0 ≤ r → r < many → IsH L' h S → Frame S L L' → Q (.int r) L') : cwk G m .l_next [.ref h, .int many] L Q E := by
  obtain ⟨m, rfl⟩ := Nat.exists_eq_add_of_le' hm
  show bodyC 2 4 (B_l_next G (cwk G m)) _ _ _ _
  refine ⟨rfl, ?_⟩
  unfold B_l_next
  obtain ⟨q, rfl, ne, mx, pl, cs, e1, e2⟩ := hh
  have x0 : ∀ Q, lIx (.ref h) (.int 0) L Q = Q (.int mx) L := fun Q => by rw [ix_r e1, atI_0]; rfl
  have x1 : ∀ Q, lIx (.ref h) (.int 1) L Q = Q (.ref q) L := fun Q => by rw [ix_r e1, atI_1]; rfl
  have x2 : ∀ Q, lIx (.ref h) (.int 2) L Q = Q (.int pl) L := fun Q => by rw [ix_r e1, atI_2]; rfl
  have ll : ∀ Q, lLen [.ref q] L Q = Q (.int cs.length) L := fun Q => by rw [c_len_r e2, List.length_map]
  simp [x0, x1, x2, ll]
  have mxp : (0 : Int) < (if (1 : Int) < cs.length then (cs.length : Int) else 1) := by split <;> omega
  refine ⟨mxp, ?_⟩
  refine eq_nil e2 ?_
  -- the cell
  have cell : ∃ c : Int, (cs = [] → c = 0) ∧ (cs ≠ [] → ∃ j : Nat, j < cs.length ∧ (pl % if (1 : Int) < cs.length then (cs.length : Int) else 1) = j ∧ cs[j]? = some c) := by
    by_cases c : cs = []
    · exact ⟨0, fun _ => rfl, fun z => absurd c z⟩
    · have hl : 0 < cs.length := List.length_pos_iff.mpr c
      have hb := Int.emod_nonneg pl (show (if (1 : Int) < cs.length then (cs.length : Int) else 1) ≠ 0 by omega)
      have hb2 := Int.emod_lt_of_pos pl mxp
      have hM : (if (1 : Int) < cs.length then (cs.length : Int) else 1) = cs.length := by split <;> omega
      have hlt : (pl % if (1 : Int) < cs.length then (cs.length : Int) else 1).toNat < cs.length := by
        rw [hM] at hb hb2 ⊢
        omega
      exact ⟨cs[(pl % if (1 : Int) < cs.length then (cs.length : Int) else 1).toNat], fun z => absurd z c, fun _ => ⟨_, hlt, (Int.toNat_of_nonneg hb).symm, List.getElem?_eq_getElem hlt⟩⟩
  obtain ⟨c, hc1, hc2⟩ := cell
  generalize hat : (pl % if (1 : Int) < cs.length then (cs.length : Int) else 1) = at0 at *
  have m7 : ∀ y : Int, 0 ≤ y % many ∧ y % many < many := fun y => ⟨Int.emod_nonneg _ (by omega), Int.emod_lt_of_pos _ h0⟩
  have main : ∀ (σ : LSt), σ = [some (.ref h), some (.int many), some (.int at0), some (.int c)] → (sSeq (sIf (xTest (xBin lGe (xVar 3) (xBin lPow (xC (.int 10)) (xC (.int 18))))) (sSeq (sAsg (xBin lDiv (xVar 3) (xVar 1)) (gSubL (xBin lIx (xVar 0) (xC (.int 1))) (xVar 2))) (sRet (xBin lMod (xVar 3) (xVar 1)))) sNext) (sSeq (sAsg (xBin lMod (xBin lAdd (xBin lAdd (xBin lMul (xBin lIx (xVar 0) (xC (.int 0))) (xC (.int 48271))) (xBin lMul (xVar 3) (xC (.int 69621)))) (xC (.int 11))) (xC (.int 2147483647))) (gSubL (xVar 0) (xC (.int 0)))) (sSeq (sAsg (xBin lAdd (xBin lIx (xVar 0) (xC (.int 2))) (xC (.int 1))) (gSubL (xVar 0) (xC (.int 2)))) (sRet (xBin lMod (xBin lDiv (xBin lIx (xVar 0) (xC (.int 0))) (xC (.int 7))) (xVar 1)))))) { nx := fun x L' => retA Q LV.non L', rt := retA Q, bk := fun x x_1 => False, ct := fun x x_1 => False, ex := exA E } σ L := fun σ hσ => by
    subst hσ
    have p18 : CPow 10 18 := ⟨by omega, by omega, by decide⟩
    have cd : CDiv c many := ⟨h0, h1⟩
    by_cases big : (10 : Int) ^ (18 : Int).toNat ≤ c
    · have ne0 : cs ≠ [] := fun z => by
        rw [hc1 z] at big
        exact absurd big (by decide)
      obtain ⟨j, hj, hat2, hcj⟩ := hc2 ne0
      have hj' : j < (cs.map LV.int).length := by rw [List.length_map]; exact hj
      simp [p18, cd, x1] at big ⊢
      simp [big, x1, hat2]
      rw [set_l e2 hj']
      simp [h0]
      refine ⟨cd, ?_⟩
      refine ret_same (k _ _ (m7 c).1 (m7 c).2 ⟨q, rfl, ne, mx, pl, cs.set j (c / many), ?_, ?_⟩ (Frame.lup (p := q) (.inl (by simp))))
      · rw [lup_ne ne]; exact e1
      · rw [lup_same, List.map_set]
    · simp [p18] at big ⊢
      have big' : ¬ (1000000000000000000 : Int) ≤ c := by simpa using big
      have ml1 : CMul mx 48271 := .inr ⟨by decide, by decide⟩
      have ml2 : CMul c 69621 := .inr ⟨by decide, by decide⟩
      have s0 : ∀ (L2 : LHp) (b : Int) v N, L2 h = some (.lst [.int b, .ref q, .int pl]) → lSetI (.ref h) (.int 0) (.int v) L2 N = N (lup L2 h (.lst [.int v, .ref q, .int pl])) := fun L2 b v N hL => set_l (k := 0) hL (by simp)
      have s2 : ∀ (L2 : LHp) (b : Int) v N, L2 h = some (.lst [.int b, .ref q, .int pl]) → lSetI (.ref h) (.int 2) (.int v) L2 N = N (lup L2 h (.lst [.int b, .ref q, .int v])) := fun L2 b v N hL => set_l (k := 2) hL (by simp)
      simp [big', x0, ml1, ml2]
      rw [s0 L mx _ _ e1]
      have y0 : ∀ (L2 : LHp) (b d : Int) Q, L2 h = some (.lst [.int b, .ref q, .int d]) → lIx (.ref h) (.int 0) L2 Q = Q (.int b) L2 := fun L2 b d Q hL => by rw [ix_r hL, atI_0]; rfl
      have y2 : ∀ (L2 : LHp) (b d : Int) Q, L2 h = some (.lst [.int b, .ref q, .int d]) → lIx (.ref h) (.int 2) L2 Q = Q (.int d) L2 := fun L2 b d Q hL => by rw [ix_r hL, atI_2]; rfl
      rw [y2 _ _ _ _ lup_same]
      simp
      rw [s2 _ _ _ _ lup_same, lup_lup]
      rw [y0 _ _ _ _ lup_same]
      have cd7 : ∀ y, CDiv y 7 := fun y => ⟨by decide, by decide⟩
      simp [h0, cd7]
      refine ret_same (k _ _ (m7 _).1 (m7 _).2 ⟨q, rfl, ne, _, _, cs, lup_same, ?_⟩ (Frame.lup (p := h) (.inl (by simp))))
      rw [lup_ne (Ne.symm ne)]
      exact e2
  by_cases cn : cs = []
  · have := hc1 cn
    subst this
    simp [cn]
    simpa [cn] using main _ rfl
  · obtain ⟨j, hj, hat2, hcj⟩ := hc2 cn
    simp [cn, x1]
    rw [hat2, ix_r e2, atI_nat (l := .int c) (by rw [List.getElem?_map, hcj]; rfl)]
    have t := main _ rfl
    rw [hat2] at t
    simpa using t
theorem mix_s {ns : List Int} {sd : Int} (hm : 1 ≤ m) (k : ∀ L' h S, IsH L' h S → Frame [] L L' → (∀ x ∈ S, L x = none) → Q (.ref h) L') : cwk G m .l_mix [.wl (ns.map LV.int), .int sd] L Q E := by
  obtain ⟨m, rfl⟩ := Nat.exists_eq_add_of_le' hm
  show bodyC 2 4 (B_l_mix G (cwk G m)) _ _ _ _
  refine ⟨rfl, ?_⟩
  unfold B_l_mix
  simp
  refine forGo_ind (fun ls σ L' => ∃ (r : List Int) (mx : Int) (o : Option LV), ls = r.map LV.int ∧ σ = [some (.wl (ns.map LV.int)), some (.int sd), some (.int mx), o] ∧ L' = L) ⟨ns, sd, none, rfl, rfl, rfl⟩ ?_ ?_
  · rintro σ L' ⟨r, mx, o, hr, rfl, rfl⟩
    simp
    intro p hp
    refine ⟨sz (by decide), fun h hh => ?_⟩
    have hp2 : h ≠ p := fun e => by rw [e, lup_same] at hh; cases hh
    have hL : L' h = none := by rw [lup_ne hp2] at hh; exact hh
    refine ret_same (k _ h [h, p] ⟨p, rfl, hp2, mx, 0, ns, lup_same, ?_⟩ ?_ ?_)
    · rw [lup_ne (Ne.symm hp2), lup_same]
    · intro x _ h2
      rw [lup_ne (fun e => h2 (by rw [e]; exact hL)), lup_ne (fun e => h2 (by rw [e]; exact hp))]
    · intro x hx
      rcases List.mem_cons.mp hx with rfl | hx
      · exact hL
      · have : x = p := List.mem_singleton.mp hx
        rw [this]; exact hp
  · rintro l ls σ L' N ⟨r, mx, o, hr, rfl, rfl⟩ hN
    cases r with
    | nil => cases hr
    | cons c r =>
      obtain ⟨rfl, rfl⟩ := List.cons.inj hr
      have ml1 : CMul mx 48271 := .inr ⟨by decide, by decide⟩
      simp [ml1]
      exact hN _ _ ⟨r, _, _, rfl, rfl, rfl⟩ trivial
end LK
set_option Elab.async false
set_option linter.all false
set_option maxRecDepth 100000
set_option maxHeartbeats 1000000
/-! The law's own world. -/
namespace LK
open PySem PySem.Spec PyProof.Rows L2
def rtL (le lo : Addr) : LO := .dct [(.inr "elders", .ref le), (.inr "own", .ref lo)]
def Er.name : Er → Str
  | .tooMany => "TooMany"
  | .noKind => "NoKind"
  | .noDeed => "NoDeed"
  | .noBody => "NoBody"
  | .ring => "Ring"
  | .noSpot => "NoSpot"
def Stp.enc : Stp → LV
  | .add e => .tup [.str "add", encO e]
  | .put k d b => .tup [.str "put", .int k, .str d, .int b]
  | .drop k d => .tup [.str "drop", .int k, .str d]
  | .turn k e => .tup [.str "turn", .int k, encO e]
  | .ask i k => .tup [.str "ask", .int i, .int k]
variable {G : GA} {L : LHp} {a le lo : Addr} {ds S : List Addr} {w : Wd} {Q : QL} {E : XL} {n : Nat}
theorem rL_el (h : L a = some (rtL le lo)) : lIx (.ref a) (.str "elders") L Q = Q (.ref le) L := by
  rw [ix_d h]
  rfl
theorem rL_ow (h : L a = some (rtL le lo)) : lIx (.ref a) (.str "own") L Q = Q (.ref lo) L := by
  rw [ix_d h]
  rfl
theorem l_up0_s (hn : 1 ≤ n) (h : Q (.lst []) L) : cwk G n .l_up [.ref a, .non] L Q E := by
  obtain ⟨n, rfl⟩ := Nat.exists_eq_add_of_le' hn
  show bodyC 2 2 (B_l_up G (cwk G n)) _ _ _ _
  refine ⟨rfl, ?_⟩
  unfold B_l_up
  simp
  exact retS h
theorem l_up_c {k : Nat} {l : List Nat} (hW : IsW rtL L a w S) (hu : Up w.el k l) : ∀ {n Q}, l.length + 1 ≤ n → l.length ≤ 100 → Q (.lst (l.map encK)) L → cwk G n .l_up [.ref a, .int k] L Q E := by
  obtain ⟨le, lo, ds, eS, nd, ha, hWd⟩ := id hW
  induction hu generalizing E with
  | @stop k e =>
    intro n Q hn hl h
    obtain ⟨n, rfl⟩ := Nat.exists_eq_add_of_le' hn
    show bodyC 2 2 (B_l_up G (cwk G (n + 1))) _ _ _ _
    refine ⟨rfl, ?_⟩
    unfold B_l_up
    have f1 : ∀ Q, lIx (.ref a) (.str "elders") L Q = Q (.ref le) L := fun Q => rL_el ha
    have f2 : ∀ Q, lIx (.ref le) (.int k) L Q = Q .non L := fun Q => by
      rw [ix_r hWd.el, atI_nat (l := .non) (by rw [List.getElem?_map, e]; rfl)]
      rfl
    simp [f1, f2]
    refine ⟨sz (by decide), l_up0_s (by omega) ?_⟩
    rw [cat_l (by simp)]
    simp
    exact retS h
  | @step k e' l e hu ih =>
    intro n Q hn hl h
    obtain ⟨n, rfl⟩ := Nat.exists_eq_add_of_le' hn
    rw [List.length_cons] at hn hl
    show bodyC 2 2 (B_l_up G (cwk G (n + (l.length + 1)))) _ _ _ _
    refine ⟨rfl, ?_⟩
    unfold B_l_up
    have f1 : ∀ Q, lIx (.ref a) (.str "elders") L Q = Q (.ref le) L := fun Q => rL_el ha
    have f2 : ∀ Q, lIx (.ref le) (.int k) L Q = Q (.int e') L := fun Q => by
      rw [ix_r hWd.el, atI_nat (l := .int e') (by rw [List.getElem?_map, e]; rfl)]
      rfl
    simp [f1, f2]
    refine ⟨sz (by decide), ih (by omega) (by omega) ?_⟩
    rw [cat_l (by simp; omega)]
    simp
    exact retS h
theorem l_up_s {k : Nat} (hn : 14 ≤ n) (hw : Wok w) (hk : k < w.el.length) (hW : IsW rtL L a w S) (h : Q (.lst ((w.up k).map encK)) L) : cwk G n .l_up [.ref a, .int k] L Q E := by
  have h1 := (hw.up k hk).len
  have h2 := hw.le
  exact l_up_c hW (hw.up k hk) (by omega) (by omega) h
theorem IsW.own_ix {r : Addr → Addr → LO} {i : Nat} (hW : IsW r L a w (a :: le :: lo :: ds)) (hi : i < w.el.length) : ∃ di, ds[i]? = some di ∧ (∀ Q, lIx (.ref lo) (.int i) L Q = Q (.ref di) L) ∧ L di = some (.dct (encD (w.dic i))) := by
  obtain ⟨le', lo', ds', e', nd, ha, hw⟩ := hW
  have e1 := List.cons.inj e'
  have e2 := List.cons.inj e1.2
  have e3 := List.cons.inj e2.2
  obtain rfl := e2.1
  obtain rfl := e3.1
  obtain rfl := e3.2
  obtain ⟨di, hd1, hd2⟩ := hw.dict hi
  exact ⟨di, hd1, fun Q => by
    rw [ix_r hw.ow, atI_nat (l := .ref di) (by rw [List.getElem?_map, hd1]; rfl)]
    rfl, hd2⟩
theorem ix_dd {d : Str} {di : Addr} {o : List (Str × Int)} (h : L di = some (.dct (encD o))) : lIx (.ref di) (.str d) L Q = onS ((vl o d).map LV.int) Q L := by
  rw [ix_d h, vl_encD]
theorem in_dd {d : Str} {di : Addr} {o : List (Str × Int)} {ng : Bool} (h : L di = some (.dct (encD o))) : lIn ng (.str d) (.ref di) L Q = Q (.bl (ng != (vl o d).isSome)) L := by
  rw [in_d h, vl_encD, Option.isSome_map]
def hitL (w : Wd) (d : Str) (l : LV) : Option LV := match l with
  | .int i => (w.hit d i.toNat).map fun p => encF (some p)
  | _ => none
theorem hit_ls (w : Wd) (d : Str) : ∀ r : List Nat, (r.map encK).filterMap (hitL w d) = (r.filterMap (w.hit d)).map fun p => encF (some p)
  | [] => rfl
  | i :: r => by
    rw [List.map_cons, List.filterMap_cons, List.filterMap_cons, hit_ls w d r]
    have : hitL w d (encK i) = (w.hit d i).map fun p => encF (some p) := by simp [hitL, encK]
    rw [this]
    cases w.hit d i <;> rfl
theorem l_find_s {k : Nat} {d : Str} (hn : 15 ≤ n) (hw : Wok w) (hk : k < w.el.length) (hW : IsW rtL L a w S) (h : Q (encF (w.fnd k d)) L) : cwk G n .l_find [.ref a, .int k, .str d] L Q E := by
  obtain ⟨n, rfl⟩ := Nat.exists_eq_add_of_le' hn
  show bodyC 3 5 (B_l_find G (cwk G (n + 14))) _ _ _ _
  refine ⟨rfl, ?_⟩
  unfold B_l_find
  simp
  refine l_up_s (by omega) hw hk hW ?_
  simp
  have hlen := uplen hw hk
  refine lc_pure (hitL w d) (by simp; exact sz (by omega)) (fun _ _ _ => trivial) ?_ ?_
  · intro l hl A o K hA q
    obtain ⟨i, hi, rfl⟩ := List.mem_map.mp hl
    have hi2 := ((hw.up k hk).mem i hi).1
    have hW2 : IsW rtL (lup L A o) a w S := hW.mono fun x hx => lup_ne fun e => hW.sm x hx (e ▸ hA)
    obtain ⟨le, lo, ds, eS, nd, ha, hWd⟩ := id hW2
    subst eS
    obtain ⟨di, hd1, x1, hd2⟩ := hW2.own_ix hi2
    have f1 : ∀ Q, lIx (.ref a) (.str "own") (lup L A o) Q = Q (.ref lo) (lup L A o) := fun Q => rL_ow ha
    unfold stepLc
    simp [lwipe, f1, encK, x1, in_dd hd2]
    unfold hitL Wd.hit at q
    simp [encK] at q
    cases c : vl (w.dic i) d with
    | none =>
      rw [c] at q
      simp
      exact q
    | some b =>
      rw [c] at q
      simp [f1, x1, ix_dd hd2, c]
      exact ⟨sz (by decide), q⟩
  · rw [hit_ls]
    have hh : (List.filterMap (w.hit d) (w.up k)).head? = w.fnd k d := List.head?_filterMap
    have tr : treAll false ((List.filterMap (w.hit d) (w.up k)).map fun p => encF (some p)) 1 = true := treAll_iff.mpr fun l hl => by
      obtain ⟨p, _, rfl⟩ := List.mem_map.mp hl
      rfl
    simp
    refine o_eq_tree (n := 2) (m := 2) (k := decide (List.filterMap (w.hit d) (w.up k) = [])) (by simpa [LV.tre] using tr) (by rfl) (by omega) (by omega) (by simp) ?_
    cases c : List.filterMap (w.hit d) (w.up k) with
    | nil =>
      rw [c] at hh
      rw [← hh] at h
      simp
      exact retS h
    | cons p r =>
      rw [c] at hh
      rw [← hh] at h
      simp
      exact retS h
end LK
set_option Elab.async false
set_option linter.all false
set_option maxRecDepth 100000
set_option maxHeartbeats 1000000
/-! The law's own world: word, change. -/
namespace LK
open PySem PySem.Spec PyProof.Rows L2
@[simp] theorem ofString_inj {s t : String} : Str.ofString s = Str.ofString t ↔ s = t := by
  constructor
  · intro h
    rw [Str.ofString_eq_toList, Str.ofString_eq_toList] at h
    have h2 := congrArg (fun z : Str => z.cps.toList) h
    have h3 : s.toList.map Char.toNat = t.toList.map Char.toNat := by simpa using h2
    have inj : ∀ l m : List Char, l.map Char.toNat = m.map Char.toNat → l = m := fun l => by
      induction l with
      | nil => intro m e; cases m <;> simp_all
      | cons a l ih =>
        intro m e
        cases m with
        | nil => simp at e
        | cons b m =>
          simp only [List.map_cons, List.cons.injEq] at e
          have : a = b := by
            have := e.1
            exact Char.toNat_inj.mp this
          rw [this, ih m e.2]
    exact String.toList_inj.mp (inj _ _ h3)
  · intro h; rw [h]

def Wd.word (w : Wd) (s : Stp) : Str := match w.chk s with
  | none => ""
  | some x => x.name
@[simp ↓] theorem for_cons {g : LTG} {body : LTS} {stay : LHp → Prop} {dn db dc : LSt → LHp → Prop} {dr : QL} {de : XL} {l : LV} {ls : List LV} {σ : LSt} {L : LHp} : forGo g body stay { nx := dn, rt := dr, bk := db, ct := dc, ex := de } (l :: ls) σ L = g l σ L (fun σ2 L2 => body { nx := fun σ3 L3 => stay L3 ∧ forGo g body stay { nx := dn, rt := dr, bk := db, ct := dc, ex := de } ls σ3 L3, rt := dr, bk := dn, ct := fun σ3 L3 => stay L3 ∧ forGo g body stay { nx := dn, rt := dr, bk := db, ct := dc, ex := de } ls σ3 L3, ex := de } σ2 L2) de := id rfl
@[simp ↓] theorem for_nil {g : LTG} {body : LTS} {stay : LHp → Prop} {dn db dc : LSt → LHp → Prop} {dr : QL} {de : XL} {σ : LSt} {L : LHp} : forGo g body stay { nx := dn, rt := dr, bk := db, ct := dc, ex := de } [] σ L = dn σ L := id rfl
@[simp] theorem upto_1 : upto 1 = [.int 0] := rfl
@[simp] theorem upto_2 : upto 2 = [.int 0, .int 1] := rfl
theorem in_strs {L : LHp} {Q : QL} {d : Str} {ng : Bool} {zs : List Str} : lIn ng (.str d) (.tup (zs.map LV.str)) L Q = Q (.bl (ng != decide (d ∈ zs))) L := by
  have h1 : (zs.map LV.str).all lflat = true := by simp [lflat]
  have h2 : (zs.map LV.str).any (fun y => leqf y (.str d)) = decide (d ∈ zs) := by
    induction zs with
    | nil => rfl
    | cons z zs ih =>
      rw [List.map_cons, List.any_cons, ih (by simp [lflat])]
      by_cases c : z = d
      · subst c; simp [leqf]
      · have c' : ¬ d = z := fun e => c e.symm
        simp [leqf, c, c']
  simp only [lIn, lflat, h1, h2, true_and]
variable {G : GA} {L : LHp} {a le lo : Addr} {ds S : List Addr} {w : Wd} {Q : QL} {E : XL} {n : Nat}
theorem in_lts {d : Str} {ng : Bool} : lIn ng (.str d) (.tup [.str "a", .str "b", .str "c", .str "d", .str "e", .str "f"]) L Q = Q (.bl (ng != decide (d ∈ Lts))) L := in_strs (zs := Lts)
theorem in_pd {d : Str} {ng : Bool} : lIn ng (.str d) (.tup [.str "put", .str "drop"]) L Q = Q (.bl (ng != decide (d ∈ (["put", "drop"] : List Str)))) L := in_strs (zs := ["put", "drop"])
theorem si_2 : ¬ (HT.sIx 2 0 (some 1) = 0 ∧ HT.sIx 2 2 (some 2) = 2) := by decide
theorem si_3 : ¬ (HT.sIx 3 0 (some 1) = 0 ∧ HT.sIx 3 3 (some 2) = 3) := by decide
theorem si_4 : ¬ (HT.sIx 4 0 (some 1) = 0 ∧ HT.sIx 4 4 (some 2) = 4) := by decide
theorem si_t : ¬ (HT.sIx 3 0 (some 2) = 0 ∧ HT.sIx 3 3 none = 3) := by decide
theorem cu_2 {x y : LV} : cutL [x, y] (some 1) (some 2) = [y] := rfl
theorem cu_3 {x y z : LV} : cutL [x, y, z] (some 1) (some 2) = [y] := rfl
theorem cu_4 {x y z u : LV} : cutL [x, y, z, u] (some 1) (some 2) = [y] := rfl
theorem cu_t {x y z : LV} : cutL [x, y, z] (some 2) none = [z] := rfl
theorem sl_2 {x y : LV} : lSl true (.tup [x, y]) (some 1) (some 2) L Q = Q (.tup [y]) L := propext ⟨fun z => z.2, fun z => ⟨si_2, z⟩⟩
theorem sl_3 {x y z : LV} : lSl true (.tup [x, y, z]) (some 1) (some 2) L Q = Q (.tup [y]) L := propext ⟨fun z => z.2, fun z => ⟨si_3, z⟩⟩
theorem sl_4 {x y z u : LV} : lSl true (.tup [x, y, z, u]) (some 1) (some 2) L Q = Q (.tup [y]) L := propext ⟨fun z => z.2, fun z => ⟨si_4, z⟩⟩
theorem sl_t {x y z : LV} : lSl true (.tup [x, y, z]) (some 2) none L Q = Q (.tup [z]) L := propext ⟨fun z => z.2, fun z => ⟨si_t, z⟩⟩
theorem cat_10 {x : LV} : lCat true (.lst [x]) (.lst []) L Q = Q (.lst [x]) L := cat_l (by simp)
theorem cat_11 {x y : LV} : lCat true (.lst [x]) (.lst [y]) L Q = Q (.lst [x, y]) L := cat_l (by simp)
theorem word_s {s : Stp} (hn : 15 ≤ n) (hs : ∀ i k, s ≠ .ask i k) (hw : Wok w) (hW : IsW rtL L a w S) (h : Q (.str (w.word s)) L) : cwk G n .l_word [.ref a, s.enc] L Q E := by
  obtain ⟨n, rfl⟩ := Nat.exists_eq_add_of_le' hn
  show bodyC 2 6 (B_l_word G (cwk G (n + 14))) _ _ _ _
  refine ⟨rfl, ?_⟩
  unfold B_l_word
  obtain ⟨le, lo, ds, eS, nd, ha, hWd⟩ := id hW
  have f1 : ∀ Q, lIx (.ref a) (.str "elders") L Q = Q (.ref le) L := fun Q => rL_el ha
  have f2 : ∀ Q, lLen [.ref le] L Q = Q (.int w.el.length) L := fun Q => by rw [c_len_r hWd.el, List.length_map]
  have f3 : ∀ Q, lIx (.ref a) (.str "own") L Q = Q (.ref lo) L := fun Q => rL_ow ha
  have w1 := hw.le
  have s1 : 1 ≤ sizeLine := sz (by decide)
  have s2 : 2 ≤ sizeLine := sz (by decide)
  have s6 : 6 ≤ sizeLine := sz (by decide)
  have c12 : 12 ≤ w.el.length ↔ (w.el.length : Int) = 12 := by omega
  cases s with
  | ask i k => exact absurd rfl (hs i k)
  | add e =>
    simp [Stp.enc, f1, f2]
    by_cases c1 : (w.el.length : Int) = 12
    · have hq : w.word (.add e) = "TooMany" := by simp [Wd.word, Wd.chk, c12.mpr c1, Er.name]
      rw [hq] at h
      simp [c1]
      exact retS h
    · have c2 : ¬ 12 ≤ w.el.length := fun z => c1 (c12.mp z)
      simp [c1, sl_2, cat_10]
      cases e with
      | none =>
        have hq : w.word (.add none) = "" := by simp [Wd.word, Wd.chk, c2, Wd.okE]
        rw [hq] at h
        simp [encO, in_pd, s2]
        exact retS h
      | some k =>
        by_cases ck : w.okK k
        · have hq : w.word (.add (some k)) = "" := by simp [Wd.word, Wd.chk, c2, Wd.okE, ck]
          rw [hq] at h
          have ck1 : 0 ≤ k := ck.1
          have ck2 : k < w.el.length := ck.2
          simp [encO, in_pd, s2, ck1, ck2]
          exact retS h
        · have hq : w.word (.add (some k)) = "NoKind" := by simp [Wd.word, Wd.chk, c2, Wd.okE, ck, Er.name]
          rw [hq] at h
          by_cases ck1 : 0 ≤ k
          · have ck2 : ¬ k < w.el.length := fun z => ck ⟨ck1, z⟩
            simp [encO, in_pd, s2, ck1, ck2]
            exact retS h
          · simp [encO, in_pd, s2, ck1]
            exact retS h
  | put k d b =>
    simp [Stp.enc, f1, f2, sl_4, cat_10]
    by_cases ck : w.okK k
    · have ck1 : 0 ≤ k := ck.1
      have ck2 : k < w.el.length := ck.2
      by_cases cd : d ∈ Lts
      · by_cases cb : 0 ≤ b ∧ b ≤ 99
        · have hq : w.word (.put k d b) = "" := by simp [Wd.word, Wd.chk, ck, cd, cb]
          rw [hq] at h
          simp [ck1, ck2, in_pd, s2, s6, in_lts, cd, cb.1, cb.2]
          exact retS h
        · have hq : w.word (.put k d b) = "NoBody" := by simp [Wd.word, Wd.chk, ck, cd, cb, Er.name]
          rw [hq] at h
          by_cases cb1 : 0 ≤ b
          · have cb2 : ¬ b ≤ 99 := fun z => cb ⟨cb1, z⟩
            simp [ck1, ck2, in_pd, s2, s6, in_lts, cd, cb1, cb2]
            exact retS h
          · simp [ck1, ck2, in_pd, s2, s6, in_lts, cd, cb1]
            exact retS h
      · have hq : w.word (.put k d b) = "NoDeed" := by simp [Wd.word, Wd.chk, ck, cd, Er.name]
        rw [hq] at h
        simp [ck1, ck2, in_pd, s2, s6, in_lts, cd]
        exact retS h
    · have hq : w.word (.put k d b) = "NoKind" := by simp [Wd.word, Wd.chk, ck, Er.name]
      rw [hq] at h
      by_cases ck1 : 0 ≤ k
      · have ck2 : ¬ k < w.el.length := fun z => ck ⟨ck1, z⟩
        simp [ck1, ck2]
        exact retS h
      · simp [ck1]
        exact retS h
  | drop k d =>
    simp [Stp.enc, f1, f2, sl_3, cat_10]
    by_cases ck : w.okK k
    · have ck1 : 0 ≤ k := ck.1
      have ck2 : k < w.el.length := ck.2
      by_cases cd : d ∈ Lts
      · simp [ck1, ck2, in_pd, s2, s6, in_lts, cd, f3]
        obtain ⟨k, rfl, hk⟩ := okK_nat ck
        subst eS
        obtain ⟨di, hd1, x1, hd2⟩ := hW.own_ix hk
        rw [x1, in_dd hd2]
        by_cases cv : (vl (w.dic k) d).isSome = true
        · have hq : w.word (.drop k d) = "" := by simp [Wd.word, Wd.chk, ck, cd, cv]
          rw [hq] at h
          rw [cv]
          simp
          exact retS h
        · have hq : w.word (.drop k d) = "NoDeed" := by simp [Wd.word, Wd.chk, ck, cd, cv, Er.name]
          rw [hq] at h
          rw [Bool.eq_false_iff.mpr cv]
          simp
          exact retS h
      · have hq : w.word (.drop k d) = "NoDeed" := by simp [Wd.word, Wd.chk, ck, cd, Er.name]
        rw [hq] at h
        simp [ck1, ck2, in_pd, s2, s6, in_lts, cd]
        exact retS h
    · have hq : w.word (.drop k d) = "NoKind" := by simp [Wd.word, Wd.chk, ck, Er.name]
      rw [hq] at h
      by_cases ck1 : 0 ≤ k
      · have ck2 : ¬ k < w.el.length := fun z => ck ⟨ck1, z⟩
        simp [ck1, ck2]
        exact retS h
      · simp [ck1]
        exact retS h
  | turn k e =>
    simp [Stp.enc, f1, f2, sl_3, sl_t, cat_11]
    by_cases ck : w.okK k
    · have ck1 : 0 ≤ k := ck.1
      have ck2 : k < w.el.length := ck.2
      cases e with
      | none =>
        have hq : w.word (.turn k none) = "" := by simp [Wd.word, Wd.chk, ck, Wd.okE, Wd.ring]
        rw [hq] at h
        simp [ck1, ck2, encO, in_pd, s2]
        refine l_up0_s (by omega) ?_
        refine in_lst (n := 0) (m := 0) (k := false) (by rfl) (by rfl) (by omega) (by omega) (by simp) ?_
        simp
        exact retS h
      | some j =>
        by_cases cj : w.okK j
        · have cj1 : 0 ≤ j := cj.1
          have cj2 : j < w.el.length := cj.2
          simp [ck1, ck2, cj1, cj2, encO, in_pd, s2]
          obtain ⟨k, rfl, hk⟩ := okK_nat ck
          obtain ⟨j, rfl, hj⟩ := okK_nat cj
          refine l_up_s (by omega) hw hj hW ?_
          refine in_lst (n := 0) (m := 0) (k := decide (k ∈ w.up j)) (by rfl) (treAll_iff.mpr fun l hl => ?_) (by omega) (by omega) ?_ ?_
          · obtain ⟨x, _, rfl⟩ := List.mem_map.mp hl
            rfl
          · rw [decide_eq_true_eq, List.mem_map]
            exact ⟨fun z => ⟨k, z, rfl⟩, fun ⟨x, hx, e⟩ => by
              have : (x : Int) = k := LV.int.inj e
              have : x = k := by omega
              exact this ▸ hx⟩
          · by_cases c : k ∈ w.up j
            · have hq : w.word (.turn k (some j)) = "Ring" := by simp [Wd.word, Wd.chk, ck, Wd.okE, cj, Wd.ring, c, Er.name]
              rw [hq] at h
              simp [c]
              exact retS h
            · have hq : w.word (.turn k (some j)) = "" := by simp [Wd.word, Wd.chk, ck, Wd.okE, cj, Wd.ring, c]
              rw [hq] at h
              simp [c]
              exact retS h
        · have hq : w.word (.turn k (some j)) = "NoKind" := by simp [Wd.word, Wd.chk, ck, Wd.okE, cj, Er.name]
          rw [hq] at h
          by_cases cj1 : 0 ≤ j
          · have cj2 : ¬ j < w.el.length := fun z => cj ⟨cj1, z⟩
            simp [ck1, ck2, cj1, cj2, encO]
            exact retS h
          · simp [ck1, ck2, cj1, encO]
            exact retS h
    · have hq : w.word (.turn k e) = "NoKind" := by simp [Wd.word, Wd.chk, ck, Er.name]
      rw [hq] at h
      by_cases ck1 : 0 ≤ k
      · have ck2 : ¬ k < w.el.length := fun z => ck ⟨ck1, z⟩
        simp [ck1, ck2]
        exact retS h
      · simp [ck1]
        exact retS h
end LK
set_option Elab.async false
set_option linter.all false
set_option maxRecDepth 100000
set_option maxHeartbeats 1000000
/-! The law's own world: new, change. -/
namespace LK
open PySem PySem.Spec PyProof.Rows L2
variable {G : GA} {L : LHp} {a le lo : Addr} {ds S : List Addr} {w : Wd} {Q : QL} {E : XL} {n : Nat}
theorem mg2 {x y : LV} : mg [] ([(Sum.inr (Str.ofString "elders"), x), (Sum.inr (Str.ofString "own"), y)] : List (Key × LV)) = [(Sum.inr (Str.ofString "elders"), x), (Sum.inr (Str.ofString "own"), y)] := by
  simp [mg, pl]
theorem l_world_s (hn : 1 ≤ n) (h : ∀ L' a S, IsW rtL L' a .new S → Frame [] L L' → (∀ x ∈ S, L x = none) → Q (.ref a) L') : cwk G n .l_world [] L Q E := by
  obtain ⟨n, rfl⟩ := Nat.exists_eq_add_of_le' hn
  show bodyC 0 0 (B_l_world G (cwk G n)) _ _ _ _
  refine ⟨rfl, ?_⟩
  unfold B_l_world
  simp [xDisp, xPairs]
  intro a ha le hle lo hlo
  have n1 : le ≠ a := fun e => by rw [e, lup_same] at hle; cases hle
  have n2 : lo ≠ le := fun e => by rw [e, lup_same] at hlo; cases hlo
  rw [lup_ne n2] at hlo
  have n3 : lo ≠ a := fun e => by rw [e, lup_same] at hlo; cases hlo
  rw [lup_ne n1] at hle
  rw [lup_ne n3] at hlo
  refine ⟨by rw [lup_ne (Ne.symm n3), lup_ne (Ne.symm n1), lup_same], ?_⟩
  simp [keyed, lKey, mg2]
  refine ret_same (h _ a [a, le, lo] ⟨le, lo, [], rfl, ?_, lup_same, ?_⟩ ?_ ?_)
  · simp [n1, n2, n3, Ne.symm n1, Ne.symm n2, Ne.symm n3]
  · refine ⟨?_, ?_, ?_, rfl, rfl, ?_⟩
    · rw [lup_ne n1, lup_ne (Ne.symm n2), lup_same]
      rfl
    · rw [lup_ne n3, lup_same]
      rfl
    · simp [Ne.symm n2]
    · intro i d o h1 _
      simp at h1
  · intro x _ h2
    rw [lup_ne (fun e => h2 (by rw [e]; exact ha)), lup_ne (fun e => h2 (by rw [e]; exact hlo)), lup_ne (fun e => h2 (by rw [e]; exact hle)), lup_ne (fun e => h2 (by rw [e]; exact ha))]
  · intro x hx
    simp at hx
    rcases hx with rfl | rfl | rfl
    · exact ha
    · exact hle
    · exact hlo
/-- what a change tells a world's asker -/
def Wd.tells (w : Wd) : Stp → LV
  | .add _ => .int w.el.length
  | _ => .non
theorem change_s {s : Stp} (hn : 1 ≤ n) (hs : ∀ i k, s ≠ .ask i k) (hc : w.chk s = none) (hw : Wok w) (hW : IsW rtL L a w S) (h : ∀ L' S', IsW rtL L' a (w.app s) S' → Frame S L L' → Grow S S' L → (∀ x ∈ S, x ∈ S') → Q (w.tells s) L') : cwk G n .l_change [.ref a, s.enc] L Q E := by
  obtain ⟨n, rfl⟩ := Nat.exists_eq_add_of_le' hn
  show bodyC 2 2 (B_l_change G (cwk G n)) _ _ _ _
  refine ⟨rfl, ?_⟩
  unfold B_l_change
  obtain ⟨le, lo, ds, eS, nd, ha, hWd⟩ := id hW
  have f1 : ∀ Q, lIx (.ref a) (.str "elders") L Q = Q (.ref le) L := fun Q => rL_el ha
  have f3 : ∀ Q, lIx (.ref a) (.str "own") L Q = Q (.ref lo) L := fun Q => rL_ow ha
  cases s with
  | ask i k => exact absurd rfl (hs i k)
  | add e =>
    have c1 : ¬ 12 ≤ w.el.length ∧ w.okE e := by
      simp only [Wd.chk] at hc
      split at hc
      · cases hc
      · split at hc
        · rename_i h1 h2; exact ⟨h1, h2⟩
        · cases hc
    have t1 := tyL_rl hWd.el
    simp [Stp.enc, f1, t1, mt_app hWd.el]
    refine ⟨szl (by omega), ?_⟩
    have nd1 := nd
    rw [eS] at nd1
    simp only [List.nodup_cons, List.mem_cons, not_or] at nd1
    have enc : w.el.map encE ++ [encO e] = (w.el ++ [e.map Int.toNat]).map encE := by
      rw [List.map_append, List.map_singleton, encO_E (okE_nonneg c1.2)]
    rw [enc]
    have f5 : ∀ Q o, lIx (.ref a) (.str "own") (lup L le o) Q = Q (.ref lo) (lup L le o) := fun Q o => rL_ow (by rw [lup_ne nd1.1.1]; exact ha)
    have t2 : ∀ o, (tyL "list" (lup L le o) (.ref lo) = true) = True := fun o => tyL_rl (by rw [lup_ne (Ne.symm nd1.2.1.1)]; exact hWd.ow)
    simp [f5, t2]
    intro p hp
    have hp1 : p ≠ le := by
      rintro rfl
      rw [lup_same] at hp
      cases hp
    have hp2 : L p = none := by
      rw [lup_ne hp1] at hp
      exact hp
    have hp3 : lo ≠ p := fun z => by
      rw [← z, hWd.ow] at hp2
      cases hp2
    rw [mt_app (by rw [lup_ne hp3, lup_ne (Ne.symm nd1.2.1.1)]; exact hWd.ow)]
    refine ⟨by simp [hWd.len, ← hWd.len2]; exact szl (by omega), ?_⟩
    have enc2 : ds.map LV.ref ++ [LV.ref p] = (ds ++ [p]).map LV.ref := by simp
    rw [enc2]
    try rw [show w.el.map encE ++ [encE (e.map Int.toNat)] = (w.el ++ [e.map Int.toNat]).map encE by simp]
    obtain ⟨g1, g2, g3⟩ := hW.add (x := e.map Int.toNat) eS hp2
    obtain ⟨le2, lo2, ds2, eS2, nd2, ha2, hW2⟩ := g1
    have e5 : le2 = le ∧ lo2 = lo := by
      rw [eS] at eS2
      simp at eS2
      exact ⟨eS2.1.symm, eS2.2.1.symm⟩
    obtain ⟨rfl, rfl⟩ := e5
    generalize hL3 : lup (lup (lup L le2 (.lst ((w.el ++ [e.map Int.toNat]).map encE))) p (.dct [])) lo2 (.lst ((ds ++ [p]).map LV.ref)) = L3 at *
    have f4 := fun Q => rL_el (Q := Q) ha2
    have f6 := fun Q => c_len_r (Q := Q) hW2.el
    rw [f4, f6]
    simp
    exact retS (h _ _ ⟨le2, lo2, ds2, eS2, nd2, ha2, hW2⟩ g2 g3 fun x hx => List.mem_append_left _ hx)
  | put k d b =>
    have ck : w.okK k := by
      simp only [Wd.chk] at hc
      split at hc
      · assumption
      · cases hc
    obtain ⟨i, rfl, hi⟩ := okK_nat ck
    subst eS
    obtain ⟨di, hd1, x1, hd2⟩ := hW.own_ix hi
    simp [Stp.enc, f3, x1]
    rw [set_d hd2, pl_encD]
    refine ⟨hw.dlen i, ?_⟩
    obtain ⟨g1, g2⟩ := hW.own (o := pl (w.dic i) d b) rfl hd1
    exact retS (h _ _ g1 g2 Grow.refl fun x hx => hx)
  | drop k d =>
    have ck : w.okK k ∧ (vl (w.dic k.toNat) d).isSome = true := by
      simp only [Wd.chk] at hc
      split at hc
      · split at hc
        · split at hc
          · rename_i h1 h2 h3; exact ⟨h1, h3⟩
          · cases hc
        · cases hc
      · cases hc
    obtain ⟨i, rfl, hi⟩ := okK_nat ck.1
    subst eS
    obtain ⟨di, hd1, x1, hd2⟩ := hW.own_ix hi
    obtain ⟨b, q⟩ := Option.isSome_iff_exists.mp ck.2
    have q2 : vl (encD (w.dic i)) (.inr d) = some (.int b) := by
      rw [vl_encD]
      simp only [Int.toNat_natCast] at q
      rw [q]; rfl
    simp [Stp.enc, f3, x1, tyL_rd hd2, lDPop, hd2, lKey, q2, dl_encD]
    obtain ⟨g1, g2⟩ := hW.own (o := dl (w.dic i) d) rfl hd1
    exact retS (h _ _ g1 g2 Grow.refl fun x hx => hx)
  | turn k e =>
    have ck : w.okK k ∧ w.okE e := by
      simp only [Wd.chk] at hc
      split at hc
      · split at hc
        · rename_i h1 h2; exact ⟨h1, h2⟩
        · cases hc
      · cases hc
    obtain ⟨i, rfl, hi⟩ := okK_nat ck.1
    simp [Stp.enc, f1]
    rw [set_l hWd.el (by rw [List.length_map]; exact hi)]
    obtain ⟨g1, g2⟩ := hW.eld (i := i) (x := e.map Int.toNat) eS
    have enc : (w.el.map encE).set i (encO e) = (w.el.set i (e.map Int.toNat)).map encE := by
      rw [List.map_set, encO_E (okE_nonneg ck.2)]
    rw [enc]
    exact retS (h _ _ g1 g2 Grow.refl fun x hx => hx)
end LK
set_option Elab.async false
set_option linter.all false
set_option maxRecDepth 100000
set_option maxHeartbeats 1000000
/-! Steps drawn. -/
namespace LK
open PySem PySem.Spec PyProof.Rows L2
def dfine (d : Str) : Prop := d.length ≤ 2 ∧ PyData.strOk d = true
def Stp.fine : Stp → Prop
  | .put _ d _ => dfine d
  | .drop _ d => dfine d
  | _ => True
def Disj (S T : List Addr) : Prop := ∀ x ∈ S, x ∉ T
variable {G : GA} {L0 L : LHp} {a h : Addr} {ds S Sh : List Addr} {w : Wd} {Q : QL} {E : XL} {n : Nat}
theorem next_f {many : Int} (hm : 1 ≤ n) (h0 : 0 < many) (h1 : many < 1073741824) (hh : IsH L h Sh) (f : Frame Sh L0 L) (k : ∀ L' r, 0 ≤ r → r < many → IsH L' h Sh → Frame Sh L0 L' → Q (.int r) L') : cwk G n .l_next [.ref h, .int many] L Q E :=
  next_s hm h0 h1 hh fun L' r r0 r1 hh' f' => k L' r r0 r1 hh' (f.tr f')
theorem IsW.fr {r : Addr → Addr → LO} (hW : IsW r L0 a w S) (f : Frame Sh L0 L) (dj : Disj S Sh) : IsW r L a w S := hW.mono fun x hx => f x (dj x hx) (hW.sm x hx)
theorem lts_fine {d : Str} (hd : d ∈ Lts) : dfine d := by
  simp only [Lts, List.mem_cons, List.not_mem_nil, or_false] at hd
  rcases hd with rfl | rfl | rfl | rfl | rfl | rfl <;> exact ⟨by decide, by decide +kernel⟩
theorem ix_abc {r : Int} (h0 : 0 ≤ r) (h1 : r < 6) : ∃ d ∈ Lts, ∀ (L : LHp) (Q : QL), lIx (.str "abcdef") (.int r) L Q = Q (.str d) L := by
  obtain ⟨j, rfl⟩ : ∃ j : Nat, r = j := ⟨r.toNat, by omega⟩
  have hj : j < 6 := by omega
  refine ⟨⟨#[("abcdef" : Str).cps.toList[j]?.getD 0]⟩, ?_, fun L Q => ix_s (sz (by decide)) hj⟩
  rw [lts_mem]
  have hl : ("abcdef" : Str).cps.toList.length = 6 := by decide +kernel
  rw [List.getElem?_eq_getElem (by omega)]
  exact List.getElem_mem _
theorem ix_2 {x y : LV} {b : Bool} {L : LHp} {Q : QL} : lIx (.lst [x, y]) (.int (if b then 1 else 0)) L Q = Q (if b then y else x) L := by
  cases b <;> simp
theorem txt_encD (o : List (Str × Int)) : txtKeys (encD o) = some (o.map (·.1)) := by
  induction o with
  | nil => rfl
  | cons p o ih =>
    simp only [encD, List.map_cons] at ih ⊢
    simp only [txtKeys]
    rw [ih]
    rfl
theorem step_s (hn : 2 ≤ n) (hh : IsH L h Sh) (hw : Wok w) (hW : IsW rtL L a w S) (dj : Disj S Sh) (k : ∀ (L' : LHp) (s : Stp), IsH L' h Sh → Frame Sh L L' → s.fine → (∀ i k, s ≠ .ask i k) → Q s.enc L') : cwk G n .l_step [.ref h, .ref a] L Q E := by
  obtain ⟨n, rfl⟩ := Nat.exists_eq_add_of_le' hn
  show bodyC 2 7 (B_l_step G (cwk G (n + 1))) _ _ _ _
  refine ⟨rfl, ?_⟩
  unfold B_l_step
  obtain ⟨le, lo, ds, eS, nd, ha, hWd⟩ := id hW
  have f1 : ∀ Q, lIx (.ref a) (.str "elders") L Q = Q (.ref le) L := fun Q => rL_el ha
  have f2 : ∀ Q, lLen [.ref le] L Q = Q (.int w.el.length) L := fun Q => by rw [c_len_r hWd.el, List.length_map]
  have w1 := hw.le
  have s2 : 2 ≤ sizeLine := sz (by decide)
  have s3 : 3 ≤ sizeLine := sz (by decide)
  have sz3 := s3
  have s4 : 4 ≤ sizeLine := sz (by decide)
  simp [f1, f2]
  refine next_f (by omega) (by omega) (by omega) hh Frame.refl fun L1 turn t0 t1 hh1 fr1 => ?_
  simp
  refine next_f (by omega) (by split <;> omega) (by split <;> omega) hh1 fr1 fun Lb kind k0 k1 hh2 fr2 => ?_
  have addd : ∀ (v : LV) L', IsH L' h Sh → Frame Sh L L' → (v = .non ∨ v = .int kind) → retA Q (.tup [.str "add", v]) L' := fun v L' h1 h2 h3 => by
    rcases h3 with rfl | rfl
    · exact retS (k L' (.add none) h1 h2 trivial (fun i k => nofun))
    · exact retS (k L' (.add (some kind)) h1 h2 trivial (fun i k => nofun))
  by_cases a1 : (w.el.length : Int) < 2
  · -- add
    by_cases z : (0 : Int) < w.el.length
    · have zn : (w.el.length : Int) ≠ 0 := by omega
      have zn2 : 0 < w.el.length := by omega
      simp [a1, s2, s3, s4, z, zn, zn2]
      refine next_f (by omega) (by omega) (by omega) hh2 fr2 fun L3 r r0 r1 hh3 fr3 => ?_
      by_cases c : 0 < r
      · simp [c, s2]
        exact addd _ L3 hh3 fr3 (.inr rfl)
      · simp [c, s2]
        exact addd _ L3 hh3 fr3 (.inl rfl)
    · have zn : (w.el.length : Int) = 0 := by omega
      have zn2 : w.el.length = 0 := by omega
      have zn3 : w.el = [] := List.length_eq_zero_iff.mp zn2
      simp [a1, s2, s3, s4, z, zn, zn2, zn3, s2]
      exact addd _ Lb hh2 fr2 (.inl rfl)

  · by_cases a2 : turn = 0
    · -- add
      by_cases z : (0 : Int) < w.el.length
      · have zn : (w.el.length : Int) ≠ 0 := by omega
        have zn2 : 0 < w.el.length := by omega
        simp [a1, a2, s2, s3, s4, z, zn, zn2]
        refine next_f (by omega) (by omega) (by omega) hh2 fr2 fun L3 r r0 r1 hh3 fr3 => ?_
        by_cases c : 0 < r
        · simp [c, s2]
          exact addd _ L3 hh3 fr3 (.inr rfl)
        · simp [c, s2]
          exact addd _ L3 hh3 fr3 (.inl rfl)
      · have zn : (w.el.length : Int) = 0 := by omega
        have zn2 : w.el.length = 0 := by omega
        have zn3 : w.el = [] := List.length_eq_zero_iff.mp zn2
        simp [a1, a2, s2, s3, s4, z, zn, zn2, zn3, s2]
        exact addd _ Lb hh2 fr2 (.inl rfl)

    · by_cases a3 : turn < 4
      · by_cases a4 : (w.el.length : Int) < 4
        · -- add
          by_cases z : (0 : Int) < w.el.length
          · have zn : (w.el.length : Int) ≠ 0 := by omega
            have zn2 : 0 < w.el.length := by omega
            simp [a1, a2, a3, a4, s2, s3, s4, z, zn, zn2]
            refine next_f (by omega) (by omega) (by omega) hh2 fr2 fun L3 r r0 r1 hh3 fr3 => ?_
            by_cases c : 0 < r
            · simp [c, s2]
              exact addd _ L3 hh3 fr3 (.inr rfl)
            · simp [c, s2]
              exact addd _ L3 hh3 fr3 (.inl rfl)
          · have zn : (w.el.length : Int) = 0 := by omega
            have zn2 : w.el.length = 0 := by omega
            have zn3 : w.el = [] := List.length_eq_zero_iff.mp zn2
            simp [a1, a2, a3, a4, s2, s3, s4, z, zn, zn2, zn3, s2]
            exact addd _ Lb hh2 fr2 (.inl rfl)

        · -- others
          simp [a1, a2, a3, a4, s2, s3, s4]
          refine next_f (by omega) (by omega) (by omega) hh2 fr2 fun L3 r3 r30 r31 hh3 fr3 => ?_
          have e3 : ∃ m : Int, 0 < m ∧ m ≤ 6 ∧ L2.atI [LV.int 2, LV.int 6] r3 = some (.int m) := by
            rcases (show r3 = 0 ∨ r3 = 1 by omega) with rfl | rfl
            · exact ⟨2, by omega, by omega, by simp⟩
            · exact ⟨6, by omega, by omega, by simp⟩
          obtain ⟨m3, m30, m31, em3⟩ := e3
          simp [em3]
          refine next_f (by omega) m30 (by omega) hh3 fr3 fun L4 r4 r40 r41 hh4 fr4 => ?_
          obtain ⟨dd, hdd, xdd⟩ := ix_abc r40 (by omega)
          simp [xdd]
          by_cases t6 : turn < 6
          · simp [t6]
            refine next_f (by omega) (by omega) (by omega) hh4 fr4 fun L5 r5 r50 r51 hh5 fr5 => ?_
            try simp
            refine next_f (by omega) (by omega) (by omega) hh5 fr5 fun L6 r6 r60 r61 hh6 fr6 => ?_
            simp [sz3]
            refine next_f (by omega) (by omega) (by omega) hh6 fr6 fun L7 r7 r70 r71 hh7 fr7 => ?_
            have e7 : ∃ m : Int, 0 ≤ m ∧ m ≤ 99 ∧ L2.atI [LV.int r5, LV.int 99, LV.int r6] r7 = some (.int m) := by
              rcases (show r7 = 0 ∨ r7 = 1 ∨ r7 = 2 by omega) with rfl | rfl | rfl
              · exact ⟨r5, by omega, by omega, by simp⟩
              · exact ⟨99, by omega, by omega, by simp⟩
              · exact ⟨r6, by omega, by omega, by simp⟩
            obtain ⟨m7, m70, m71, em7⟩ := e7
            simp [em7, s4, s3]
            exact retS (k L7 (.put kind dd m7) hh7 fr7 (lts_fine hdd) (fun i k => nofun))
          · by_cases t8 : turn < 8
            · simp [t6, t8]
              have hW4 := hW.fr fr4 dj
              subst eS
              obtain ⟨kk, rfl, hkk⟩ : ∃ kk : Nat, kind = kk ∧ kk < w.el.length := ⟨kind.toNat, by omega, by split at k1 <;> omega⟩
              obtain ⟨di, hd1, x1, hd2⟩ := hW4.own_ix hkk
              have f3 : ∀ Q, lIx (.ref a) (.str "own") L4 Q = Q (.ref lo) L4 := fun Q => by
                obtain ⟨le', lo', ds', e', nd', ha', hw'⟩ := hW4
                simp at e'
                rw [e'.2.1]
                exact rL_ow ha'
              rw [f3, x1]
              simp only [lSortD, hd2, txt_encD]
              have dlen := (hw.dic kk).len
              refine ⟨by rw [List.length_map]; omega, fun ys hp hs => ?_⟩
              have hys : ∀ y ∈ ys, y ∈ Lts := fun y hy => by
                obtain ⟨p, hp2, rfl⟩ := List.mem_map.mp (hp.subset hy)
                exact ((hw.dic kk).2 p hp2).1
              have trY : treAll false (ys.map LV.str) 0 = true := treAll_iff.mpr fun l hl => by
                obtain ⟨y, hy, rfl⟩ := List.mem_map.mp hl
                exact (lts_fine (hys y hy)).2
              have lenY : ys.length ≤ 6 := by rw [hp.length_eq, List.length_map]; exact dlen
              simp
              refine o_eq_tree (n := 1) (m := 1) (k := decide (ys = [])) (by simpa [LV.tre] using trY) (by rfl) (by omega) (by omega) (by simp) ?_
              by_cases cy : ys = []
              · simp [cy, s3]
                exact retS (k L4 (.drop kk dd) hh4 fr4 (lts_fine hdd) (fun i k => nofun))
              · have pos : 0 < ys.length := List.length_pos_iff.mpr cy
                simp [cy]
                refine next_f (by omega) (by omega) (by omega) hh4 fr4 fun L5 r5 r50 r51 hh5 fr5 => ?_
                obtain ⟨j, rfl⟩ : ∃ j : Nat, r5 = j := ⟨r5.toNat, by omega⟩
                have hj : j < ys.length := by omega
                rw [ix_l, atI_nat (l := LV.str ys[j]) (by rw [List.getElem?_map, List.getElem?_eq_getElem hj]; rfl)]
                simp [s3]
                exact retS (k L5 (.drop kk ys[j]) hh5 fr5 (lts_fine (hys _ (List.getElem_mem hj))) (fun i k => nofun))
            · simp [t6, t8]
              refine next_f (by omega) (by omega) (by omega) hh4 fr4 fun L5 r5 r50 r51 hh5 fr5 => ?_
              simp [s2]
              refine next_f (by omega) (by omega) (by omega) hh5 fr5 fun L6 r6 r60 r61 hh6 fr6 => ?_
              by_cases c6 : 0 < r6
              · simp [c6, s3]
                exact retS (k L6 (.turn kind (some r5)) hh6 fr6 trivial (fun i k => nofun))
              · simp [c6, s3]
                exact retS (k L6 (.turn kind none) hh6 fr6 trivial (fun i k => nofun))

      · -- others
        simp [a1, a2, a3, s2, s3, s4]
        refine next_f (by omega) (by omega) (by omega) hh2 fr2 fun L3 r3 r30 r31 hh3 fr3 => ?_
        have e3 : ∃ m : Int, 0 < m ∧ m ≤ 6 ∧ L2.atI [LV.int 2, LV.int 6] r3 = some (.int m) := by
          rcases (show r3 = 0 ∨ r3 = 1 by omega) with rfl | rfl
          · exact ⟨2, by omega, by omega, by simp⟩
          · exact ⟨6, by omega, by omega, by simp⟩
        obtain ⟨m3, m30, m31, em3⟩ := e3
        simp [em3]
        refine next_f (by omega) m30 (by omega) hh3 fr3 fun L4 r4 r40 r41 hh4 fr4 => ?_
        obtain ⟨dd, hdd, xdd⟩ := ix_abc r40 (by omega)
        simp [xdd]
        by_cases t6 : turn < 6
        · simp [t6]
          refine next_f (by omega) (by omega) (by omega) hh4 fr4 fun L5 r5 r50 r51 hh5 fr5 => ?_
          try simp
          refine next_f (by omega) (by omega) (by omega) hh5 fr5 fun L6 r6 r60 r61 hh6 fr6 => ?_
          simp [sz3]
          refine next_f (by omega) (by omega) (by omega) hh6 fr6 fun L7 r7 r70 r71 hh7 fr7 => ?_
          have e7 : ∃ m : Int, 0 ≤ m ∧ m ≤ 99 ∧ L2.atI [LV.int r5, LV.int 99, LV.int r6] r7 = some (.int m) := by
            rcases (show r7 = 0 ∨ r7 = 1 ∨ r7 = 2 by omega) with rfl | rfl | rfl
            · exact ⟨r5, by omega, by omega, by simp⟩
            · exact ⟨99, by omega, by omega, by simp⟩
            · exact ⟨r6, by omega, by omega, by simp⟩
          obtain ⟨m7, m70, m71, em7⟩ := e7
          simp [em7, s4, s3]
          exact retS (k L7 (.put kind dd m7) hh7 fr7 (lts_fine hdd) (fun i k => nofun))
        · by_cases t8 : turn < 8
          · simp [t6, t8]
            have hW4 := hW.fr fr4 dj
            subst eS
            obtain ⟨kk, rfl, hkk⟩ : ∃ kk : Nat, kind = kk ∧ kk < w.el.length := ⟨kind.toNat, by omega, by split at k1 <;> omega⟩
            obtain ⟨di, hd1, x1, hd2⟩ := hW4.own_ix hkk
            have f3 : ∀ Q, lIx (.ref a) (.str "own") L4 Q = Q (.ref lo) L4 := fun Q => by
              obtain ⟨le', lo', ds', e', nd', ha', hw'⟩ := hW4
              simp at e'
              rw [e'.2.1]
              exact rL_ow ha'
            rw [f3, x1]
            simp only [lSortD, hd2, txt_encD]
            have dlen := (hw.dic kk).len
            refine ⟨by rw [List.length_map]; omega, fun ys hp hs => ?_⟩
            have hys : ∀ y ∈ ys, y ∈ Lts := fun y hy => by
              obtain ⟨p, hp2, rfl⟩ := List.mem_map.mp (hp.subset hy)
              exact ((hw.dic kk).2 p hp2).1
            have trY : treAll false (ys.map LV.str) 0 = true := treAll_iff.mpr fun l hl => by
              obtain ⟨y, hy, rfl⟩ := List.mem_map.mp hl
              exact (lts_fine (hys y hy)).2
            have lenY : ys.length ≤ 6 := by rw [hp.length_eq, List.length_map]; exact dlen
            simp
            refine o_eq_tree (n := 1) (m := 1) (k := decide (ys = [])) (by simpa [LV.tre] using trY) (by rfl) (by omega) (by omega) (by simp) ?_
            by_cases cy : ys = []
            · simp [cy, s3]
              exact retS (k L4 (.drop kk dd) hh4 fr4 (lts_fine hdd) (fun i k => nofun))
            · have pos : 0 < ys.length := List.length_pos_iff.mpr cy
              simp [cy]
              refine next_f (by omega) (by omega) (by omega) hh4 fr4 fun L5 r5 r50 r51 hh5 fr5 => ?_
              obtain ⟨j, rfl⟩ : ∃ j : Nat, r5 = j := ⟨r5.toNat, by omega⟩
              have hj : j < ys.length := by omega
              rw [ix_l, atI_nat (l := LV.str ys[j]) (by rw [List.getElem?_map, List.getElem?_eq_getElem hj]; rfl)]
              simp [s3]
              exact retS (k L5 (.drop kk ys[j]) hh5 fr5 (lts_fine (hys _ (List.getElem_mem hj))) (fun i k => nofun))
          · simp [t6, t8]
            refine next_f (by omega) (by omega) (by omega) hh4 fr4 fun L5 r5 r50 r51 hh5 fr5 => ?_
            simp [s2]
            refine next_f (by omega) (by omega) (by omega) hh5 fr5 fun L6 r6 r60 r61 hh6 fr6 => ?_
            by_cases c6 : 0 < r6
            · simp [c6, s3]
              exact retS (k L6 (.turn kind (some r5)) hh6 fr6 trivial (fun i k => nofun))
            · simp [c6, s3]
              exact retS (k L6 (.turn kind none) hh6 fr6 trivial (fun i k => nofun))
end LK
set_option Elab.async false
set_option linter.all false
set_option maxRecDepth 100000
set_option maxHeartbeats 1000000
/-! Odd steps drawn. -/
namespace LK
open PySem PySem.Spec PyProof.Rows L2
variable {G : GA} {L0 L : LHp} {a h : Addr} {ds S Sh : List Addr} {w : Wd} {Q : QL} {E : XL} {n : Nat}
theorem atI_mem {ls : List LV} {r : Int} (h0 : 0 ≤ r) (h1 : r < ls.length) : ∃ x ∈ ls, L2.atI ls r = some x := by
  obtain ⟨j, rfl⟩ : ∃ j : Nat, r = j := ⟨r.toNat, by omega⟩
  have hj : j < ls.length := by omega
  exact ⟨ls[j], List.getElem_mem hj, atI_nat (List.getElem?_eq_getElem hj)⟩
theorem odd_s (hn : 2 ≤ n) (hh : IsH L h Sh) (hw : Wok w) (hW : IsW rtL L a w S) (k : ∀ (L' : LHp) (s : Stp), IsH L' h Sh → Frame Sh L L' → s.fine → (∀ i k, s ≠ .ask i k) → Q s.enc L') : cwk G n .l_odd [.ref h, .ref a] L Q E := by
  obtain ⟨n, rfl⟩ := Nat.exists_eq_add_of_le' hn
  show bodyC 2 7 (B_l_odd G (cwk G (n + 1))) _ _ _ _
  refine ⟨rfl, ?_⟩
  unfold B_l_odd
  obtain ⟨le, lo, ds, eS, nd, ha, hWd⟩ := id hW
  have f1 : ∀ Q, lIx (.ref a) (.str "elders") L Q = Q (.ref le) L := fun Q => rL_el ha
  have f2 : ∀ Q, lLen [.ref le] L Q = Q (.int w.el.length) L := fun Q => by rw [c_len_r hWd.el, List.length_map]
  have w1 := hw.le
  have p6 : CPow 10 6 := ⟨by omega, by omega, by decide⟩
  have sc : ∀ k : Nat, k ≤ 100 → k ≤ sizeLine := fun k hk => sz (by omega)
  simp [f1, f2, p6]
  refine next_f (by omega) (by omega) (by omega) hh Frame.refl fun L1 far t0 t1 hh1 fr1 => ?_
  simp
  refine next_f (by omega) (by split <;> omega) (by split <;> omega) hh1 fr1 fun Lb kind k0 k1 hh2 fr2 => ?_
  simp [sc]
  refine next_f (by omega) (by omega) (by omega) hh2 fr2 fun Lc r2 r20 r21 hh3 fr3 => ?_
  have e3 : ∃ m : Int, L2.atI [LV.int w.el.length, LV.int (w.el.length + far), LV.int (-1), LV.int (-1 - far)] r2 = some (.int m) := by
    rcases (show r2 = 0 ∨ r2 = 1 ∨ r2 = 2 ∨ r2 = 3 by omega) with rfl | rfl | rfl | rfl
    · exact ⟨_, atI_0⟩
    · exact ⟨_, atI_1⟩
    · exact ⟨_, atI_2⟩
    · exact ⟨_, atI_3⟩
  obtain ⟨out, e3⟩ := e3
  simp [e3, sc]
  rw [cat_l (by simp)]
  simp [sc]
  rw [cat_l (by simp)]
  simp [sc]
  rw [cat_l (by simp)]
  simp
  refine next_f (by omega) (by omega) (by omega) hh3 fr3 fun Ld r4 r40 r41 hh4 fr4 => ?_
  simp
  obtain ⟨x, hx, ex⟩ := atI_mem (ls := [Stp.enc (.add (some out)), Stp.enc (.put out "g" 100), Stp.enc (.put kind "g" 100), Stp.enc (.put kind "" 0), Stp.enc (.put kind "ab" 0), Stp.enc (.put kind "a" (100 + far)), Stp.enc (.put kind "a" (-1 - far)), Stp.enc (.drop out "z"), Stp.enc (.drop kind "A"),
    Stp.enc (.drop kind "f"), Stp.enc (.turn out none), Stp.enc (.turn kind (some out)), Stp.enc (.turn kind (some kind)), Stp.enc (.turn out (some out))]) r40 (by simpa using r41)
  have ex' := ex
  simp only [Stp.enc, encO] at ex'
  rw [ex']
  have fin : ∃ s : Stp, x = s.enc ∧ s.fine ∧ ∀ i k, s ≠ .ask i k := by
    simp only [List.mem_cons, List.not_mem_nil, or_false] at hx
    have df : ∀ d ∈ (["g", "", "ab", "a", "z", "A", "f"] : List Str), dfine d := by
      intro d hd
      simp only [List.mem_cons, List.not_mem_nil, or_false] at hd
      rcases hd with rfl | rfl | rfl | rfl | rfl | rfl | rfl <;> exact ⟨by decide, by decide +kernel⟩
    rcases hx with rfl | rfl | rfl | rfl | rfl | rfl | rfl | rfl | rfl | rfl | rfl | rfl | rfl | rfl
    · exact ⟨_, rfl, trivial, fun i k => nofun⟩
    all_goals first
      | exact ⟨.put _ _ _, rfl, df _ (by simp), fun i k => nofun⟩
      | exact ⟨.drop _ _, rfl, df _ (by simp), fun i k => nofun⟩
      | exact ⟨.turn _ _, rfl, trivial, fun i k => nofun⟩
  obtain ⟨s, rfl, s1, s2⟩ := fin
  exact retS (k Ld s hh4 fr4 s1 s2)
end LK
set_option Elab.async false
set_option linter.all false
set_option maxRecDepth 100000
set_option maxHeartbeats 1000000
/-! New ones. -/
namespace LK
open PySem PySem.Spec PyProof.Rows L2
variable {G : GA} {L0 L : LHp} {a h : Addr} {ds S Sh : List Addr} {w : Wd} {Q : QL} {E : XL} {n : Nat}
theorem pf_nil {f : Str} {v : LV} : pf f v [] = [(f, v)] := rfl
theorem winit_s (hn : 1 ≤ n) (ha : L a = some (.ins G.cW [])) (h : ∀ L' S, IsW (rtW G) L' a .new S → Frame [a] L L' → Grow [a] S L → Q .non L') : cwk G n .World_init [.ref a] L Q E := by
  obtain ⟨n, rfl⟩ := Nat.exists_eq_add_of_le' hn
  show bodyC 1 1 (B_World_init G (cwk G n)) _ _ _ _
  refine ⟨rfl, ?_⟩
  unfold B_World_init
  simp
  intro le hle
  have n1 : a ≠ le := lists_ne hle ha
  rw [brP_ref (fs := []) (by rw [lup_ne n1]; exact ha) (by decide)]
  intro lo hlo
  have n2 : lo ≠ a := fun e => by rw [e, lup_same] at hlo; cases hlo
  rw [lup_ne n2] at hlo
  have n3 : lo ≠ le := fun e => by rw [e, lup_same] at hlo; cases hlo
  rw [lup_ne n3] at hlo
  rw [brP_ref (fs := pf "elders" (.ref le) []) (by rw [lup_ne (Ne.symm n2), lup_same]) (by rw [pf_nil]; show 1 < 1000; decide)]
  have e2 : pf "own" (.ref lo) (pf "elders" (.ref le) []) = ([("elders", LV.ref le), ("own", LV.ref lo)] : List (Str × LV)) := by rfl
  rw [e2]
  refine ret_same (h _ [a, le, lo] ⟨le, lo, [], rfl, ?_, lup_same, ?_, ?_, ?_, rfl, rfl, ?_⟩ ?_ ?_)
  · simp [n1, n2, n3, Ne.symm n1, Ne.symm n2, Ne.symm n3]
  · rw [lup_ne (Ne.symm n1), lup_ne (Ne.symm n3), lup_ne (Ne.symm n1), lup_same]
    rfl
  · rw [lup_ne n2, lup_same]
    rfl
  · simp [Ne.symm n3]
  · intro i d o h1 _
    simp at h1
  · intro x h1 h2
    simp at h1
    rw [lup_ne h1, lup_ne (fun e => h2 (by rw [e]; exact hlo)), lup_ne h1, lup_ne (fun e => h2 (by rw [e]; exact hle))]
  · intro x hx
    simp at hx
    rcases hx with rfl | rfl | rfl
    · exact .inl (by simp)
    · exact .inr hle
    · exact .inr hlo
def goodSp (sp : Str) : Prop := 1 ≤ sp.length ∧ sp.length ≤ 8 ∧ ∀ c ∈ sp.cps.toList, (⟨#[c]⟩ : Str) ∈ Lts
theorem need_spots_s {sp : Str} {wide : Int} (hn : 1 ≤ n) (hg : goodSp sp) (hw : 1 ≤ wide ∧ wide ≤ 6) (h : Q .non L) : cwk G n .need_spots [.str sp, .int wide] L Q E := by
  obtain ⟨n, rfl⟩ := Nat.exists_eq_add_of_le' hn
  show bodyC 2 3 (B_need_spots G (cwk G n)) _ _ _ _
  refine ⟨rfl, ?_⟩
  unfold B_need_spots
  have l1 : (1 : Int) ≤ sp.length := by have := hg.1; omega
  have l2 : (sp.length : Int) ≤ 8 := by have := hg.2.1; omega
  have l3 : sp.length ≤ sizeLine := sz (by have := hg.2.1; omega)
  simp [l1, l2, l3]
  refine lc_pure (fun _ => none) ?_ (fun _ _ _ => trivial) ?_ ?_
  · simp [signs]
    exact sz (by have := hg.2.1; exact Nat.le_trans this (by decide))
  · intro l hl A o K hA q
    obtain ⟨c, hc, rfl⟩ := List.mem_map.mp hl
    have := lts_mem.mp (hg.2.2 c hc)
    have h2 : c ∈ ("abcdef" : Str).cps := by simpa using this
    unfold stepLc
    simp [lwipe, lIn, h2]
    exact q
  · have e : (List.filterMap (fun _ => (none : Option LV)) (signs sp)) = [] := by
      induction signs sp with
      | nil => rfl
      | cons x r ih => exact ih
    rw [e]
    refine o_eq_same (n := 1) (by rfl) (by omega) ?_
    simp [hw.1, hw.2]
    exact retS h
def Nr.new (sp : Str) (wide : Nat) (rule : Str) : Nr := ⟨sp, wide, rule, .new, List.replicate sp.length [], 0, 0, 0, 0, 0⟩
theorem Nok.new {sp : Str} {wide : Nat} {rule : Str} (hg : goodSp sp) (hw : 1 ≤ wide ∧ wide ≤ 6) (hr : rule ∈ (["all", "deed", "below", "just"] : List Str)) : Nok (.new sp wide rule) := by
  have key : ∀ es ∈ (Nr.new sp wide rule).kept, es = [] := fun es h => (List.mem_replicate.mp h).2
  exact ⟨Wok.new, by simp [Nr.new], hg.1, hg.2.1, hg.2.2, hw.1, hw.2, hr, fun es h => by rw [key es h]; exact Nat.zero_le _, fun es h => by rw [key es h]; simp, fun es h e he => by rw [key es h] at he; cases he⟩
theorem in_wt {d : Str} {ng : Bool} {zs : List Str} : lIn ng (.str d) (.wt (zs.map LV.str)) L Q = Q (.bl (ng != decide (d ∈ zs))) L := in_strs (zs := zs)
theorem ninit_s {sp : Str} {wide : Nat} {rule : Str} (hn : 2 ≤ n) (hg : goodSp sp) (hw : 1 ≤ wide ∧ wide ≤ 6) (hr : rule ∈ (["all", "deed", "below", "just"] : List Str)) (ha : L a = some (.ins G.cN [])) (h : ∀ L' S, IsN G L' a (.new sp wide rule) S → Frame [a] L L' → Grow [a] S L → Q .non L') :
    cwk G n .Near_init [.ref a, .str sp, .int wide, .str rule] L Q E := by
  obtain ⟨n, rfl⟩ := Nat.exists_eq_add_of_le' hn
  show bodyC 4 5 (B_Near_init G (cwk G (n + 1))) _ _ _ _
  refine ⟨rfl, ?_⟩
  unfold B_Near_init
  simp
  refine need_spots_s (by omega) hg (by omega) ?_
  rw [show [LV.str (Str.ofString "all"), LV.str (Str.ofString "deed"), LV.str (Str.ofString "below"), LV.str (Str.ofString "just")] = (["all", "deed", "below", "just"] : List Str).map LV.str from rfl, in_wt]
  rw [decide_eq_true hr]
  simp
  rw [brP_ref ha (by decide), brP_ref lup_same (by show 1 < 1000; decide), brP_ref lup_same (by show 2 < 1000; decide)]
  rw [lup_lup, lup_lup]
  generalize hL1 : lup L a _ = L1
  have a1 : L1 a = some (.ins G.cN [("spots", .str sp), ("wide", .int wide), ("rule", .str rule)]) := by rw [← hL1, lup_same]; rfl
  have fr1 : Frame [a] L L1 := by rw [← hL1]; exact Frame.lup (.inl (by simp))
  intro aw haw
  have nw : a ≠ aw := lists_ne haw a1
  refine winit_s (by omega) lup_same fun L2 Sw hW fr2 gr => ⟨rfl, ?_⟩
  have a2 : L2 a = some (.ins G.cN [("spots", .str sp), ("wide", .int wide), ("rule", .str rule)]) := by
    rw [fr2 a (by simp [nw]) (by rw [lup_ne nw, a1]; exact nofun), lup_ne nw]
    exact a1
  rw [brP_ref a2 (by show 3 < 1000; decide)]
  have a3 : pf "world" (.ref aw) ([("spots", LV.str sp), ("wide", LV.int wide), ("rule", LV.str rule)] : List (Str × LV)) = ([("spots", LV.str sp), ("wide", LV.int wide), ("rule", LV.str rule), ("world", LV.ref aw)] : List (Str × LV)) := by rfl
  rw [a3]
  obtain ⟨L3, hL3⟩ : ∃ L3, L3 = lup L2 a (.ins G.cN ([("spots", LV.str sp), ("wide", LV.int wide), ("rule", LV.str rule), ("world", LV.ref aw)] : List (Str × LV))) := ⟨_, rfl⟩
  rw [← hL3]
  have a4 : L3 a = some (.ins G.cN ([("spots", LV.str sp), ("wide", LV.int wide), ("rule", LV.str rule), ("world", LV.ref aw)] : List (Str × LV))) := by rw [hL3, lup_same]
  have awS : ∀ x ∈ Sw, x ≠ a := fun x hx e => by
    rcases gr x hx with z | z
    · have : x = aw := List.mem_singleton.mp z
      exact nw (e.symm.trans this)
    · rw [e, lup_ne nw, a1] at z
      cases z
  have hW3 : IsW (rtW G) L3 aw .new Sw := hW.mono fun x hx => by rw [hL3, lup_ne (awS x hx)]
  intro D hD
  have Da : a ≠ D := lists_ne hD a4
  refine ⟨trivial, ?_⟩
  refine lc_ind (fun ls acc L' => L' = lup L3 D (.lst acc) ∧ acc = List.replicate acc.length (.lst []) ∧ acc.length + ls.length = sp.length) ⟨rfl, rfl, by simp [signs]; rfl⟩ ?_ ?_
  · rintro acc L' ⟨rfl, e, hl⟩
    have hl' : acc.length = sp.length := by simpa using hl
    rw [hl'] at e
    subst e
    simp only [finL]
    rw [brP_ref (by rw [lup_ne Da]; exact a4) (by show 4 < 1000; decide), brP_ref lup_same (by show 5 < 1000; decide), brP_ref lup_same (by show 6 < 1000; decide), brP_ref lup_same (by show 7 < 1000; decide), brP_ref lup_same (by show 8 < 1000; decide), brP_ref lup_same (by show 9 < 1000; decide)]
    rw [lup_lup, lup_lup, lup_lup, lup_lup, lup_lup]
    obtain ⟨L4, hL4⟩ : ∃ L4, L4 = lup (lup L3 D (.lst (List.replicate sp.length (.lst [])))) a (rtN G (.new sp wide rule) aw D) := ⟨_, rfl⟩
    show retA Q .non (lup (lup L3 D (.lst (List.replicate sp.length (.lst [])))) a (rtN G (.new sp wide rule) aw D))
    rw [← hL4]
    have DS : ∀ x ∈ Sw, x ≠ D := fun x hx e => hW3.sm x hx (e ▸ hD)
    refine ret_same (h L4 (a :: D :: Sw) ⟨aw, D, Sw, rfl, ?_, ?_, ?_, ?_⟩ ?_ ?_)
    · obtain ⟨_, _, _, _, nd, _⟩ := hW
      simp only [List.nodup_cons, List.mem_cons, not_or]
      exact ⟨⟨Da, fun z => awS a z rfl⟩, fun z => DS D z rfl, nd⟩
    · rw [hL4, lup_same]
    · rw [hL4, lup_ne (Ne.symm Da), lup_same]
      simp [Nr.new, encL]
    · exact hW3.mono fun x hx => by rw [hL4, lup_ne (awS x hx), lup_ne (DS x hx)]
    · intro x h1 h2
      have xa : x ≠ a := by simpa using h1
      have h3 : L1 x ≠ none := fr1.keep x h1 h2
      have xw : x ≠ aw := fun e => h3 (by rw [e]; exact haw)
      have h4 : L2 x = L1 x := by rw [fr2 x (by simp [xw]) (by rw [lup_ne xw]; exact h3), lup_ne xw]
      have h5 : L3 x = L1 x := by rw [hL3, lup_ne xa, h4]
      have xD : x ≠ D := fun e => by rw [e, hD] at h5; exact h3 (by rw [e, ← h5])
      rw [hL4, lup_ne xa, lup_ne xD, h5, fr1 x h1 h2]
    · have nL : ∀ x, x ≠ a → L1 x = none → L x = none := fun x xa hx => by
        cases e : L x with
        | none => rfl
        | some o =>
          have := fr1 x (by simp [xa]) (by rw [e]; exact nofun)
          rw [hx, e] at this
          cases this
      intro x hx
      rcases List.mem_cons.mp hx with rfl | hx
      · exact .inl (by simp)
      rcases List.mem_cons.mp hx with rfl | hx
      · refine .inr (nL _ (Ne.symm Da) ?_)
        cases e : L1 x with
        | none => rfl
        | some o =>
          have xw : x ≠ aw := fun e2 => by rw [e2, haw] at e; cases e
          have h4 : L2 x = L1 x := by rw [fr2 x (by simp [xw]) (by rw [lup_ne xw, e]; exact nofun), lup_ne xw]
          rw [hL3, lup_ne (Ne.symm Da), h4, e] at hD
          cases hD
      · refine .inr (nL x (awS x hx) ?_)
        rcases gr x hx with z | z
        · have : x = aw := List.mem_singleton.mp z
          rw [this]; exact haw
        · by_cases xw : x = aw
          · rw [xw]; exact haw
          · rw [lup_ne xw] at z
            exact z
  · rintro l ls acc L' K ⟨rfl, e, hl⟩ hs hn
    unfold stepLc
    simp [lwipe]
    refine hs _ _ lup_same (szl (by simp at hl; have := hg.2.1; omega)) trivial ⟨lup_lup, ?_, by rw [List.length_append]; simp at hl ⊢; omega⟩
    rw [List.length_append, List.length_singleton, List.replicate_succ', ← e]
end LK
set_option Elab.async false
set_option linter.all false
set_option maxRecDepth 100000
set_option maxHeartbeats 1000000
/-! A Near drawn. -/
namespace LK
open PySem PySem.Spec PyProof.Rows L2
variable {G : GA} {L0 L : LHp} {a h : Addr} {ds S Sh : List Addr} {w : Wd} {Q : QL} {E : XL} {n : Nat}
def sg (c : Nat) : Str := ⟨#[c]⟩
theorem glue_sg : ∀ cs : List Nat, StrLaws.glueL [] (cs.map sg) = cs
  | [] => rfl
  | c :: cs => by
    rw [List.map_cons, StrLaws.glueL, glue_sg cs]
    rfl
theorem join_sg {cs : List Nat} : (Txt.join "" (cs.map sg)).cps.toList = cs := by
  cases cs with
  | nil => rfl
  | cons c cs =>
    show (Txt.join "" (sg c :: cs.map sg)).cps.toList = _
    unfold Txt.join
    rw [StrLaws.glued_list]
    have e : ("" : Str).cps.toList = [] := by decide +kernel
    rw [e, StrLaws.glueT, glue_sg]
    rfl
theorem strs_sg (cs : List Nat) : strsOf (cs.map fun c => LV.str (sg c)) = some (cs.map sg) := by
  have : (cs.map fun c => LV.str (sg c)) = (cs.map sg).map LV.str := by simp
  rw [this, strsOf_map]
theorem sum_sg : ∀ cs : List Nat, ((cs.map sg).map (·.length)).sum = cs.length
  | [] => rfl
  | c :: cs => by
    simp only [List.map_cons, List.sum_cons, sum_sg cs, List.length_cons]
    show 1 + cs.length = _
    omega
theorem ish_lup {D : Addr} {o : LO} (hh : IsH L h Sh) (hD : D ∉ Sh) : IsH (lup L D o) h Sh := hh.mono fun x hx => lup_ne fun e => hD (e ▸ hx)
theorem ish_ler {D : Addr} (hh : IsH L h Sh) (hD : D ∉ Sh) : IsH (ler L D) h Sh := hh.mono fun x hx => ler_ne fun e => hD (e ▸ hx)
theorem frame_lup {D : Addr} {o : LO} (f : Frame S L0 L) (hD : L0 D = none) : Frame S L0 (lup L D o) := fun x h1 h2 => by
  rw [lup_ne (fun e => h2 (by rw [e]; exact hD))]
  exact f x h1 h2
theorem frame_ler {D : Addr} (f : Frame S L0 L) (hD : L0 D = none) : Frame S L0 (ler L D) := fun x h1 h2 => by
  rw [ler_ne (fun e => h2 (by rw [e]; exact hD))]
  exact f x h1 h2
theorem Frame.nul (f : Frame S L0 L) {D : Addr} (hD : L D = none) (hs : D ∉ S) : L0 D = none := by
  cases e : L0 D with
  | none => rfl
  | some o =>
    have := f.get hs e
    rw [hD] at this
    cases this
theorem cut_abc {k : Nat} (h1 : 1 ≤ k) (h6 : k ≤ 6) : (cutS "abcdef" none (some (k : Int))).length = k ∧ ∀ c ∈ (cutS "abcdef" none (some (k : Int))).cps.toList, sg c ∈ Lts := by
  have hl : ("abcdef" : Str).length = 6 := by decide +kernel
  have hl2 : ("abcdef" : Str).cps.toList.length = 6 := by decide +kernel
  have e1 : HT.sIx ("abcdef" : Str).length ("abcdef" : Str).length (some (k : Int)) = k := by
    rw [HT.sIx_nat, hl]
    omega
  have e2 : HT.sIx ("abcdef" : Str).length 0 none = 0 := rfl
  unfold cutS
  rw [e1, e2]
  constructor
  · show (((("abcdef" : Str).cps.toList.drop 0).take (k - 0)).toArray).size = k
    rw [List.size_toArray, List.length_take, List.drop_zero, hl2]
    omega
  · intro c hc
    have hc' : c ∈ (("abcdef" : Str).cps.toList.drop 0).take (k - 0) := by simpa using hc
    exact lts_mem.mpr (List.mem_of_mem_drop (List.mem_of_mem_take hc'))
theorem ix_str {z : Str} {r : Int} (hl : z.length ≤ sizeLine) (h0 : 0 ≤ r) (h1 : r < z.length) : ∃ c ∈ z.cps.toList, ∀ (L : LHp) (Q : QL), lIx (.str z) (.int r) L Q = Q (.str (sg c)) L := by
  obtain ⟨j, rfl⟩ : ∃ j : Nat, r = j := ⟨r.toNat, by omega⟩
  have hj : j < z.length := by omega
  have hj' : j < z.cps.toList.length := by rw [Array.length_toList]; exact hj
  refine ⟨z.cps.toList[j], List.getElem_mem hj', fun L Q => ?_⟩
  rw [ix_s hl hj, List.getElem?_eq_getElem hj']
  rfl
theorem near_s (hn : 2 ≤ n) (hh : IsH L h Sh) (k : ∀ (L' : LHp) (sp : Str) (wide : Nat) (rule : Str), goodSp sp → 1 ≤ wide ∧ wide ≤ 6 → rule ∈ (["all", "deed", "below", "just"] : List Str) → IsH L' h Sh → Frame Sh L L' → Q (.tup [.str sp, .int wide, .str rule]) L') : cwk G n .l_near [.ref h] L Q E := by
  obtain ⟨n, rfl⟩ := Nat.exists_eq_add_of_le' hn
  show bodyC 1 4 (B_l_near G (cwk G (n + 1))) _ _ _ _
  refine ⟨rfl, ?_⟩
  unfold B_l_near
  simp
  refine next_f (by omega) (by omega) (by omega) hh Frame.refl fun L1 r1 r10 r11 hh1 fr1 => ?_
  obtain ⟨kd, hkd, kd1, kd6⟩ : ∃ kd : Nat, (1 : Int) + r1 = kd ∧ 1 ≤ kd ∧ kd ≤ 6 := ⟨(1 + r1).toNat, by omega, by omega, by omega⟩
  obtain ⟨dl1, dl2⟩ := cut_abc kd1 kd6
  simp [lSl, hkd]
  generalize hde : cutS (Str.ofString "abcdef") none (some (kd : Int)) = deeds at *
  have dsz : deeds.length ≤ sizeLine := sz (by omega)
  refine ⟨sz (by decide), ?_⟩
  refine next_f (by omega) (by omega) (by omega) hh1 fr1 fun L2 r2 r20 r21 hh2 fr2 => ?_
  obtain ⟨kn, hkn, kn1, kn8⟩ : ∃ kn : Nat, (1 : Int) + r2 = kn ∧ 1 ≤ kn ∧ kn ≤ 8 := ⟨(1 + r2).toNat, by omega, by omega, by omega⟩
  simp [hkn]
  refine ⟨by omega, fun D hD => ⟨trivial, ?_⟩⟩
  have DS : D ∉ Sh := fun z => hh2.sm D z hD
  have D0 : L D = none := fr2.nul hD DS
  refine lc_ind (fun ls acc L' => ∃ cs : List Nat, acc = cs.map (fun c => LV.str (sg c)) ∧ (∀ c ∈ cs, sg c ∈ Lts) ∧ IsH L' h Sh ∧ Frame Sh L L' ∧ L' D = some (.lst acc) ∧ cs.length + ls.length = kn) ⟨[], rfl, by simp, ish_lup hh2 DS, frame_lup fr2 D0, lup_same, by simp [upto]⟩ ?_ ?_
  · rintro acc L' ⟨cs, rfl, hcs, hh3, fr3, hD3, hl⟩
    have hl' : cs.length = kn := by simpa using hl
    refine ⟨hD3, ?_⟩
    have hh4 := ish_ler (D := D) hh3 DS
    have fr4 := frame_ler (D := D) fr3 D0
    generalize ler L' D = L4 at *
    simp only [lJoin, lstOf, strs_sg]
    refine ⟨?_, ?_⟩
    · rw [sum_sg, List.length_map]
      have : ("" : Str).length = 0 := by decide +kernel
      rw [this]
      omega
    obtain ⟨sp, hsp⟩ : ∃ sp, sp = Txt.join "" (cs.map sg) := ⟨_, rfl⟩
    have spl : sp.cps.toList = cs := by rw [hsp, join_sg]
    have good : goodSp sp := by
      have e : sp.length = kn := by
        show sp.cps.size = kn
        rw [← Array.length_toList, spl, hl']
      exact ⟨by omega, by omega, fun c hc => hcs c (by rw [← spl]; exact hc)⟩
    rw [← hsp]
    refine next_f (by omega) (by omega) (by omega) hh4 fr4 fun L5 r5 r50 r51 hh5 fr5 => ?_
    simp
    refine ⟨sz (by decide), ?_⟩
    refine next_f (by omega) (by omega) (by omega) hh5 fr5 fun L6 r6 r60 r61 hh6 fr6 => ?_
    obtain ⟨kw, hkw, kw1, kw6⟩ : ∃ kw : Nat, (1 : Int) + r5 = kw ∧ 1 ≤ kw ∧ kw ≤ 6 := ⟨(1 + r5).toNat, by omega, by omega, by omega⟩
    obtain ⟨x, hx, ex⟩ := atI_mem (ls := (["all", "deed", "below", "just"] : List Str).map LV.str) r60 (by simpa using r61)
    obtain ⟨rule, hr, rfl⟩ := List.mem_map.mp hx
    have ex' := ex
    simp only [List.map_cons, List.map_nil] at ex'
    simp [ex', hkw]
    exact ⟨sz (by decide), retS (k L6 sp kw rule good ⟨kw1, kw6⟩ hr hh6 fr6)⟩
  · rintro l ls acc L' K ⟨cs, rfl, hcs, hh3, fr3, hD3, hl⟩ hs hn2
    unfold stepLc
    simp [lwipe]
    refine ⟨dsz, ?_⟩
    refine next_s (by omega) (by omega) (by omega) hh3 fun L4 r4 r40 r41 hh4 f4 => ?_
    have fr4 := fr3.tr f4
    obtain ⟨c, hc, xc⟩ := ix_str (z := deeds) dsz r40 (by omega)
    rw [xc]
    have hD4 : L4 D = some (.lst (cs.map fun c => LV.str (sg c))) := f4.get DS hD3
    refine hs _ _ hD4 (szl (by simp at hl ⊢; omega)) trivial ⟨cs ++ [c], by simp, fun c' hc' => ?_, ish_lup hh4 DS, frame_lup fr4 D0, by rw [lup_same], by simp at hl ⊢; omega⟩
    rcases List.mem_append.mp hc' with z | z
    · exact hcs c' z
    · have : c' = c := List.mem_singleton.mp z
      rw [this]
      exact dl2 c hc
end LK
set_option Elab.async false
set_option linter.all false
set_option maxRecDepth 100000
set_option maxHeartbeats 1000000
/-! What the law keeps of a Near. -/
namespace LK
open PySem PySem.Spec PyProof.Rows L2
def kvM (n : Nr) (aw ak ac : Addr) : List (Key × LV) := [(.inr "spots", .str n.sp), (.inr "wide", .int n.wide), (.inr "rule", .str n.rule), (.inr "world", .ref aw), (.inr "kept", .ref ak), (.inr "counts", .ref ac), (.inr "needless", .int n.ndl)]
def rtM (n : Nr) (aw ak ac : Addr) : LO := .dct (kvM n aw ak ac)
def IsM (L : LHp) (a : Addr) (n : Nr) (S : List Addr) : Prop := ∃ aw ak ac ks Sw, S = a :: ak :: ac :: (ks ++ Sw) ∧ S.Nodup ∧ L a = some (rtM n aw ak ac) ∧ L ak = some (.lst (ks.map LV.ref)) ∧ L ac = some (.lst [.int n.hits, .int n.misses, .int n.fgt, .int n.thr]) ∧
  ks.length = n.kept.length ∧ (∀ (i : Nat) (d : Addr), ks[i]? = some d → L d = some (.lst ((n.at i).map encN))) ∧ IsW rtL L aw n.w Sw
variable {G : GA} {L0 L L' : LHp} {a h aw ak ac : Addr} {ds S Sh : List Addr} {w : Wd} {Q : QL} {E : XL} {m : Nat} {n : Nr}
theorem IsM.mono (hM : IsM L a n S) (mm : ∀ x, x ∈ S → L' x = L x) : IsM L' a n S := by
  obtain ⟨aw, ak, ac, ks, Sw, rfl, nd, h1, h2, h3, h4, h5, h6⟩ := hM
  exact ⟨aw, ak, ac, ks, Sw, rfl, nd, by rw [mm _ (by simp)]; exact h1, by rw [mm _ (by simp)]; exact h2, by rw [mm _ (by simp)]; exact h3, h4, fun i d hd => by
    rw [mm _ (by simp [List.mem_of_getElem? hd])]
    exact h5 i d hd, h6.mono fun x hx => mm x (by simp [hx])⟩
theorem IsM.sm (hM : IsM L a n S) : ∀ x, x ∈ S → L x ≠ none := by
  obtain ⟨aw, ak, ac, ks, Sw, rfl, nd, h1, h2, h3, h4, h5, h6⟩ := hM
  intro x hx
  rcases List.mem_cons.mp hx with rfl | hx
  · rw [h1]; exact fun z => nomatch z
  rcases List.mem_cons.mp hx with rfl | hx
  · rw [h2]; exact fun z => nomatch z
  rcases List.mem_cons.mp hx with rfl | hx
  · rw [h3]; exact fun z => nomatch z
  rcases List.mem_append.mp hx with hx | hx
  · obtain ⟨i, hi, e⟩ := List.mem_iff_getElem.mp hx
    rw [h5 i x (by rw [List.getElem?_eq_getElem hi, e])]
    exact fun z => nomatch z
  · exact h6.sm x hx
theorem gM_spots (h : L a = some (rtM n aw ak ac)) : lIx (.ref a) (.str "spots") L Q = Q (.str n.sp) L := by rw [ix_d h]; rfl
theorem gM_wide (h : L a = some (rtM n aw ak ac)) : lIx (.ref a) (.str "wide") L Q = Q (.int n.wide) L := by rw [ix_d h]; rfl
theorem gM_rule (h : L a = some (rtM n aw ak ac)) : lIx (.ref a) (.str "rule") L Q = Q (.str n.rule) L := by rw [ix_d h]; rfl
theorem gM_world (h : L a = some (rtM n aw ak ac)) : lIx (.ref a) (.str "world") L Q = Q (.ref aw) L := by rw [ix_d h]; rfl
theorem gM_kept (h : L a = some (rtM n aw ak ac)) : lIx (.ref a) (.str "kept") L Q = Q (.ref ak) L := by rw [ix_d h]; rfl
theorem gM_counts (h : L a = some (rtM n aw ak ac)) : lIx (.ref a) (.str "counts") L Q = Q (.ref ac) L := by rw [ix_d h]; rfl
theorem gM_ndl (h : L a = some (rtM n aw ak ac)) : lIx (.ref a) (.str "needless") L Q = Q (.int n.ndl) L := by rw [ix_d h]; rfl
theorem IsM.fr (hM : IsM L0 a n S) (f : Frame Sh L0 L) (dj : Disj S Sh) : IsM L a n S := hM.mono fun x hx => f x (dj x hx) (hM.sm x hx)
theorem asks_s (hm : 3 ≤ m) (hh : IsH L h Sh) (ok : Wok n.w) (hs : 1 ≤ n.sp.length ∧ n.sp.length ≤ 8) (hM : IsM L a n S) (dj : Disj S Sh) (k : ∀ (L' : LHp) (s : Stp), IsH L' h Sh → Frame Sh L L' → s.fine → Q s.enc L') : cwk G m .l_asks [.ref h, .ref a] L Q E := by
  obtain ⟨m, rfl⟩ := Nat.exists_eq_add_of_le' hm
  show bodyC 2 6 (B_l_asks G (cwk G (m + 2))) _ _ _ _
  refine ⟨rfl, ?_⟩
  unfold B_l_asks
  have hM0 := hM
  obtain ⟨aw, ak, ac, ks, Sw, eS, nd, h1, h2, h3, h4, h5, h6⟩ := hM
  obtain ⟨le, lo, dsw, eW, ndw, haw, hWd⟩ := id h6
  have djw : Disj Sw Sh := fun x hx => dj x (by rw [eS]; simp [hx])
  have w1 := ok.le
  have g1 : ∀ Q, lIx (.ref a) (.str "world") L Q = Q (.ref aw) L := fun Q => gM_world h1
  have f1 : ∀ Q, lIx (.ref aw) (.str "elders") L Q = Q (.ref le) L := fun Q => rL_el haw
  have f2 : ∀ Q, lLen [.ref le] L Q = Q (.int n.w.el.length) L := fun Q => by rw [c_len_r hWd.el, List.length_map]
  have sc : ∀ k : Nat, k ≤ 100 → k ≤ sizeLine := fun k hk => sz (by omega)
  have p6 : CPow 10 6 := ⟨by omega, by omega, by decide⟩
  have aS : a ∉ Sh := dj a (by rw [eS]; simp)
  have rest : ∀ L1, IsH L1 h Sh → Frame Sh L L1 → ∀ (σ : LSt), σ = [some (.ref h), some (.ref a), some (.int n.w.el.length), none, none, none] →
      (sSeq (sIf (xTest (xBin (lEq false) (xCall 2 (cwk G (m + 2) .l_next) (xCons (xVar 0) (xCons (xC (.int 12)) xNil))) (xC (.int 11)))) (sSeq (sAsg (xBin lIx (xLst true (xCons (xVar 2) (xCons (xNeg (xC (.int 1))) (xCons (xBin lAdd (xVar 2) (xCall 2 (cwk G (m + 2) .l_next) (xCons (xVar 0) (xCons (xBin lPow (xC (.int 10)) (xC (.int 6))) xNil)))) xNil)))) (xCall 2 (cwk G (m + 2) .l_next) (xCons (xVar 0) (xCons (xC (.int 3)) xNil)))) (gNm 4)) (sSeq (sAsg (xBin lIx (xLst true (xCons (xBin lAdd (xCB lLen (xCons (xBin lIx (xVar 1) (xC (.str "spots"))) xNil)) (xCall 2 (cwk G (m + 2) .l_next) (xCons (xVar 0) (xCons (xC (.int 9)) xNil)))) (xCons (xBin lSub (xNeg (xC (.int 1))) (xCall 2 (cwk G (m + 2) .l_next) (xCons (xVar 0) (xCons (xC (.int 3)) xNil)))) xNil))) (xCall 2 (cwk G (m + 2) .l_next) (xCons (xVar 0) (xCons (xC (.int 2)) xNil)))) (gNm 5)) (sRet (xBin lIx (xLst true (xCons (xTup (xCons (xC (.str "ask")) (xCons (xC (.int 0)) (xCons (xVar 4) xNil)))) (xCons (xTup (xCons (xC (.str "ask")) (xCons (xVar 5) (xCons (xVar 4) xNil)))) (xCons (xCall 2 (cwk G (m + 2) .l_odd) (xCons (xVar 0) (xCons (xBin lIx (xVar 1) (xC (.str "world"))) xNil))) xNil)))) (xCall 2 (cwk G (m + 2) .l_next) (xCons (xVar 0) (xCons (xC (.int 3)) xNil))))))) sNext) (sRet (xCall 2 (cwk G (m + 2) .l_step) (xCons (xVar 0) (xCons (xBin lIx (xVar 1) (xC (.str "world"))) xNil)))))
        { nx := fun x L' => retA Q LV.non L', rt := retA Q, bk := fun x x_1 => False, ct := fun x x_1 => False, ex := exA E } σ L1 := fun L1 hh1 fr1 σ hσ => by
    subst hσ
    simp
    refine next_f (by omega) (by omega) (by omega) hh1 fr1 fun Lb r r0 r1 hh2 fr2 => ?_
    by_cases c : r = 11
    · simp [c, sc, p6]
      refine next_f (by omega) (by omega) (by omega) hh2 fr2 fun Lc r3 r30 r31 hh3 fr3 => ?_
      simp [sc]
      refine next_f (by omega) (by omega) (by omega) hh3 fr3 fun Ld r4 r40 r41 hh4 fr4 => ?_
      have e4 : ∃ o : Int, L2.atI [LV.int n.w.el.length, LV.int (-1), LV.int (n.w.el.length + r3)] r4 = some (.int o) := by
        rcases (show r4 = 0 ∨ r4 = 1 ∨ r4 = 2 by omega) with rfl | rfl | rfl
        · exact ⟨_, atI_0⟩
        · exact ⟨_, atI_1⟩
        · exact ⟨_, atI_2⟩
      obtain ⟨out, e4⟩ := e4
      have gs : ∀ Q, lIx (.ref a) (.str "spots") Ld Q = Q (.str n.sp) Ld := fun Q => gM_spots (n := n) (aw := aw) (ak := ak) (ac := ac) (fr4.get aS h1)
      have spl : n.sp.length ≤ sizeLine := sz (by omega)
      simp [e4, gs, spl]
      refine next_f (by omega) (by omega) (by omega) hh4 fr4 fun Le r5 r50 r51 hh5 fr5 => ?_
      try simp
      refine next_f (by omega) (by omega) (by omega) hh5 fr5 fun Lf r6 r60 r61 hh6 fr6 => ?_
      simp [sc]
      refine next_f (by omega) (by omega) (by omega) hh6 fr6 fun Lg r7 r70 r71 hh7 fr7 => ?_
      have e7 : ∃ o : Int, L2.atI [LV.int (n.sp.length + r5), LV.int (-1 - r6)] r7 = some (.int o) := by
        rcases (show r7 = 0 ∨ r7 = 1 by omega) with rfl | rfl
        · exact ⟨_, atI_0⟩
        · exact ⟨_, atI_1⟩
      obtain ⟨bey, e7⟩ := e7
      have gw : ∀ Q, lIx (.ref a) (.str "world") Lg Q = Q (.ref aw) Lg := fun Q => gM_world (n := n) (aw := aw) (ak := ak) (ac := ac) (fr7.get aS h1)
      simp [e7, sc, gw]
      refine odd_s (by omega) hh7 ok (h6.fr fr7 djw) fun Lh s hh8 f8 sf _ => ?_
      have fr8 := fr7.tr f8
      try simp [sc]
      refine next_f (by omega) (by omega) (by omega) hh8 fr8 fun Li r9 r90 r91 hh9 fr9 => ?_
      rcases (show r9 = 0 ∨ r9 = 1 ∨ r9 = 2 by omega) with rfl | rfl | rfl
      · simp
        exact retS (k Li (.ask 0 out) hh9 fr9 trivial)
      · simp
        exact retS (k Li (.ask bey out) hh9 fr9 trivial)
      · simp
        exact retS (k Li s hh9 fr9 sf)
    · have gw : ∀ Q, lIx (.ref a) (.str "world") Lb Q = Q (.ref aw) Lb := fun Q => gM_world (n := n) (aw := aw) (ak := ak) (ac := ac) (fr2.get aS h1)
      simp [c, gw]
      refine step_s (by omega) hh2 ok (h6.fr fr2 djw) djw fun Lc s hh3 f3 sf _ => ?_
      exact retS (k Lc s hh3 (fr2.tr f3) sf)
  simp [g1, f1, f2]
  by_cases c1 : (1 : Int) < n.w.el.length
  · have c1' : 1 < n.w.el.length := by omega
    simp [c1, c1']
    refine next_f (by omega) (by omega) (by omega) hh Frame.refl fun L1 r r0 r1 hh1 fr1 => ?_
    by_cases c2 : 0 < r
    · simp [c2, sc]
      refine next_f (by omega) (by omega) (by omega) hh1 fr1 fun Lb r2 r20 r21 hh2 fr2 => ?_
      have e2 : ∃ o : Int, 0 < o ∧ o < 1073741824 ∧ L2.atI [LV.int n.w.el.length, LV.int (if (3 : Int) < n.w.el.length then 3 else n.w.el.length)] r2 = some (.int o) := by
        rcases (show r2 = 0 ∨ r2 = 1 by omega) with rfl | rfl
        · exact ⟨_, by omega, by omega, atI_0⟩
        · exact ⟨_, by split <;> omega, by split <;> omega, atI_1⟩
      obtain ⟨few, f0, f3, e2⟩ := e2
      have gs : ∀ Q, lIx (.ref a) (.str "spots") Lb Q = Q (.str n.sp) Lb := fun Q => gM_spots (n := n) (aw := aw) (ak := ak) (ac := ac) (fr2.get aS h1)
      have spl : n.sp.length ≤ sizeLine := sz (by omega)
      simp [e2, gs, spl]
      refine next_f (by omega) (by omega) (by omega) hh2 fr2 fun Lc r3 r30 r31 hh3 fr3 => ?_
      try simp
      refine next_f (by omega) f0 f3 hh3 fr3 fun Ld r4 r40 r41 hh4 fr4 => ?_
      try simp [sc]
      exact retS (k Ld (.ask r3 r4) hh4 fr4 trivial)
    · have t := rest L1 hh1 fr1 _ rfl
      simp [c2] at t ⊢
      exact t
  · have c1' : ¬ 1 < n.w.el.length := by omega
    have t := rest L hh Frame.refl _ rfl
    simp [c1, c1'] at t ⊢
    exact t
end LK
set_option Elab.async false
set_option linter.all false
set_option maxRecDepth 100000
set_option maxHeartbeats 1000000
/-! What the law keeps of a Near: new. -/
namespace LK
open PySem PySem.Spec PyProof.Rows L2
variable {G : GA} {L0 L L' : LHp} {a h aw ak ac : Addr} {ds S Sh : List Addr} {w : Wd} {Q : QL} {E : XL} {m : Nat} {n : Nr}
def kv4 (sp : Str) (wide : Nat) (rule : Str) (aw : Addr) : List (Key × LV) := [(.inr "spots", .str sp), (.inr "wide", .int wide), (.inr "rule", .str rule), (.inr "world", .ref aw)]
def kv3 (ak ac : Addr) : List (Key × LV) := [(.inr "kept", .ref ak), (.inr "counts", .ref ac), (.inr "needless", .int 0)]
theorem mg4 {sp : Str} {wide : Nat} {rule : Str} {aw : Addr} : mg [] (kv4 sp wide rule aw) = kv4 sp wide rule aw := by rfl
theorem mg3 {ak ac : Addr} : mg [] (kv3 ak ac) = kv3 ak ac := by rfl
theorem mg7 {sp : Str} {wide : Nat} {rule : Str} {aw ak ac : Addr} : mg (kv4 sp wide rule aw) (kv3 ak ac) = kvM (.new sp wide rule) aw ak ac := by rfl
theorem keyed4 {sp : Str} {wide : Nat} {rule : Str} {aw : Addr} : keyed [(.str "spots", .str sp), (.str "wide", .int wide), (.str "rule", .str rule), (.str "world", .ref aw)] = some (kv4 sp wide rule aw) := by rfl
theorem keyed3 {ak ac : Addr} : keyed [(.str "kept", .ref ak), (.str "counts", .ref ac), (.str "needless", .int 0)] = some (kv3 ak ac) := by rfl
theorem fresh_s {sp : Str} {wide : Nat} {rule : Str} (hm : 2 ≤ m) (hg : goodSp sp) (k : ∀ L' a S, IsM L' a (.new sp wide rule) S → Frame [] L L' → (∀ x ∈ S, L x = none) → Q (.ref a) L') : cwk G m .l_fresh [.str sp, .int wide, .str rule] L Q E := by
  obtain ⟨m, rfl⟩ := Nat.exists_eq_add_of_le' hm
  show bodyC 3 5 (B_l_fresh G (cwk G (m + 1))) _ _ _ _
  refine ⟨rfl, ?_⟩
  unfold B_l_fresh
  simp only [w_seq, w_asg, xDisp, xPairs, w_c, w_var, startL_def]
  simp
  intro a ha
  refine l_world_s (by omega) fun L1 aw Sw hW fr1 gr1 => ?_
  have nil1 : ∀ x o, L x = some o → L1 x = some o := fun x o hx => by
    have xa : x ≠ a := fun e => by rw [e, ha] at hx; cases hx
    exact fr1.get (by simp) (by rw [lup_ne xa]; exact hx)
  have a1 : L1 a = some (.dct []) := fr1.get (by simp) lup_same
  have aSw : ∀ x ∈ Sw, x ≠ a := fun x hx e => by
    have := gr1 x hx
    rw [e, lup_same] at this
    cases this
  refine ⟨a1, ?_⟩
  rw [keyed4]
  simp only [mg4]
  refine ⟨by show 4 ≤ 15; decide, ?_⟩
  obtain ⟨L2, hL2⟩ : ∃ L2, L2 = lup L1 a (.dct (kv4 sp wide rule aw)) := ⟨_, rfl⟩
  rw [← hL2]
  have a2 : L2 a = some (.dct (kv4 sp wide rule aw)) := by rw [hL2, lup_same]
  have W2 : IsW rtL L2 aw .new Sw := hW.mono fun x hx => by rw [hL2, lup_ne (aSw x hx)]
  have nil2 : ∀ x o, L x = some o → L2 x = some o := fun x o hx => by
    have xa : x ≠ a := fun e => by rw [e, ha] at hx; cases hx
    rw [hL2, lup_ne xa]
    exact nil1 x o hx
  simp [tyL_rd a2]
  intro q hq
  have qa := lists_ne hq a2
  have qW : ∀ x ∈ Sw, x ≠ q := fun x hx e => W2.sm x hx (e ▸ hq)
  intro D hD
  have Dq : D ≠ q := fun e => by rw [e, lup_same] at hD; cases hD
  rw [lup_ne Dq] at hD
  have Da := lists_ne hD a2
  have DW : ∀ x ∈ Sw, x ≠ D := fun x hx e => W2.sm x hx (e ▸ hD)
  refine ⟨trivial, ?_⟩
  refine lc_ind (fun ls acc L' => ∃ ks : List Addr, acc = ks.map LV.ref ∧ ks.Nodup ∧ (∀ d ∈ ks, L2 d = none ∧ d ≠ q ∧ d ≠ D ∧ L' d = some (.lst [])) ∧ L' D = some (.lst acc) ∧ L' q = some (.dct []) ∧ (∀ x, L2 x ≠ none → L' x = L2 x) ∧ ks.length + ls.length = sp.length) ⟨[], rfl, by simp, (by simp), lup_same, ?_, ?_, ?_⟩ ?_ ?_
  · rw [lup_ne (Ne.symm Dq), lup_same]
  · intro x hx
    rw [lup_ne (fun e => hx (by rw [e]; exact hD)), lup_ne (fun e => hx (by rw [e]; exact hq))]
  · simp [signs]
    rfl
  · rintro acc L3 ⟨ks, rfl, knd, hks, hD3, hq3, fr3, hl⟩
    have hl' : ks.length = sp.length := by simpa using hl
    simp only [finL]
    refine ⟨sz (by decide), ?_⟩
    intro ac hac
    have acn : L2 ac = none := by
      cases e : L2 ac with
      | none => rfl
      | some o =>
        have := fr3 ac (by rw [e]; exact nofun)
        rw [hac, e] at this
        cases this
    have acq : q ≠ ac := lists_ne hac hq3
    have acD : D ≠ ac := lists_ne hac hD3
    have ack : ∀ d ∈ ks, d ≠ ac := fun d hd => lists_ne hac (hks d hd).2.2.2
    refine ⟨by rw [lup_ne acq]; exact hq3, ?_⟩
    rw [keyed3]
    simp only [mg3]
    refine ⟨by show 3 ≤ 15; decide, ?_⟩
    have aac := lists_ne acn a2
    have a5 : (lup (lup L3 ac (.lst [.int 0, .int 0, .int 0, .int 0])) q (.dct (kv3 D ac))) a = some (.dct (kv4 sp wide rule aw)) := by
      rw [lup_ne qa, lup_ne aac, fr3 a (by rw [a2]; exact nofun)]
      exact a2
    simp only [lUpd, a5, lup_same, mg7]
    refine ⟨qa, by show 4 + 3 ≤ _; exact sz (by decide), ?_⟩
    have aks : a ∉ ks := fun z => by
      have := (hks a z).1
      rw [a2] at this
      cases this
    have Wks : ∀ x ∈ Sw, x ∉ ks := fun x hx z => W2.sm x hx (hks x z).1
    have Wac : ∀ x ∈ Sw, x ≠ ac := fun x hx e => W2.sm x hx (by rw [e]; exact acn)
    refine ret_same (k _ a (a :: D :: ac :: (ks ++ Sw)) ⟨aw, D, ac, ks, Sw, rfl, ?_, lup_same, ?_, ?_, ?_, ?_, ?_⟩ ?_ ?_)
    · obtain ⟨_, _, _, _, ndw, _⟩ := hW
      simp only [List.nodup_cons, List.mem_cons, List.mem_append, not_or, List.nodup_append]
      refine ⟨⟨Da, aac, aks, fun z => aSw a z rfl⟩, ⟨acD, fun z => (hks D z).2.2.1 rfl, fun z => DW D z rfl⟩, ⟨fun z => ack ac z rfl, fun z => Wac ac z rfl⟩, knd, ndw, fun x hx y hy e => Wks y hy (e ▸ hx)⟩
    · rw [lup_ne (Ne.symm Da), lup_ne Dq, lup_ne acD]
      exact hD3
    · rw [lup_ne (Ne.symm aac), lup_ne (Ne.symm acq), lup_same]
      rfl
    · simp [Nr.new, hl']
    · intro i d hd
      have md := List.mem_of_getElem? hd
      have hi : i < sp.length := by
        rw [← hl']
        exact (List.getElem?_eq_some_iff.mp hd).1
      rw [lup_ne (show d ≠ a from fun e => aks (e ▸ md)), lup_ne (hks d md).2.1, lup_ne (ack d md), (hks d md).2.2.2]
      have : (Nr.new sp wide rule).at i = [] := by simp [Nr.at, Nr.new, hi]
      rw [this]
      rfl
    · exact W2.mono fun x hx => by
        rw [lup_ne (aSw x hx), lup_ne (qW x hx), lup_ne (Wac x hx), fr3 x (W2.sm x hx)]
    · intro x _ hx
      cases e : L x with
      | none => exact absurd e hx
      | some o =>
        have h2 := nil2 x o e
        have h3 : L2 x ≠ none := by rw [h2]; exact nofun
        rw [lup_ne (fun z => by rw [z, ha] at e; cases e), lup_ne (fun z => h3 (by rw [z]; exact hq)), lup_ne (fun z => h3 (by rw [z]; exact acn)), fr3 x h3, h2]
    · have nn : ∀ x, L2 x = none → L x = none := fun x hx => by
        cases e : L x with
        | none => rfl
        | some o => rw [nil2 x o e] at hx; cases hx
      intro x hx
      rcases List.mem_cons.mp hx with rfl | hx
      · exact ha
      rcases List.mem_cons.mp hx with rfl | hx
      · exact nn _ hD
      rcases List.mem_cons.mp hx with rfl | hx
      · exact nn _ acn
      rcases List.mem_append.mp hx with hx | hx
      · exact nn _ (hks x hx).1
      · have := gr1 x hx
        rw [lup_ne (aSw x hx)] at this
        exact this
  · rintro l ls acc L3 K ⟨ks, rfl, knd, hks, hD3, hq3, fr3, hl⟩ hs hn
    unfold stepLc
    simp [lwipe]
    intro d hd
    have dn : L2 d = none := by
      cases e : L2 d with
      | none => rfl
      | some o =>
        have := fr3 d (by rw [e]; exact nofun)
        rw [hd, e] at this
        cases this
    have dq : q ≠ d := lists_ne hd hq3
    have dD : D ≠ d := lists_ne hd hD3
    have dk : ∀ d' ∈ ks, d' ≠ d := fun d' hd' => lists_ne hd (hks d' hd').2.2.2
    refine hs _ _ (by rw [lup_ne dD]; exact hD3) (szl (by simp at hl ⊢; have := hg.2.1; omega)) trivial ⟨ks ++ [d], by simp, ?_, ?_, lup_same, ?_, ?_, by simp at hl ⊢; omega⟩
    · rw [List.nodup_append]
      exact ⟨knd, by simp, fun x hx y hy => by
        have : y = d := List.mem_singleton.mp hy
        rw [this]
        exact dk x hx⟩
    · intro x hx
      rcases List.mem_append.mp hx with hx | hx
      · obtain ⟨g1, g2, g3, g4⟩ := hks x hx
        exact ⟨g1, g2, g3, by rw [lup_ne g3, lup_ne (dk x hx)]; exact g4⟩
      · have : x = d := List.mem_singleton.mp hx
        subst this
        exact ⟨dn, Ne.symm dq, Ne.symm dD, by rw [lup_ne (Ne.symm dD), lup_same]⟩
    · rw [lup_ne (Ne.symm Dq), lup_ne dq]
      exact hq3
    · intro x hx
      rw [lup_ne (fun e => hx (by rw [e]; exact hD)), lup_ne (fun e => hx (by rw [e]; exact dn))]
      exact fr3 x hx
end LK
set_option Elab.async false
set_option linter.all false
set_option maxRecDepth 100000
set_option maxHeartbeats 1000000
/-! alike: the same tree. -/
namespace LK
open PySem PySem.Spec PyProof.Rows L2
variable {G : GA} {L : LHp} {Q : QL} {E : XL} {m : Nat}
theorem tn2 : tyNames [.ty "tuple", .ty "list"] = some ["tuple", "list"] := by rfl
def isSq : LV → Bool
  | .tup _ => true
  | .lst _ => true
  | _ => false
theorem isi_sq {a : LV} {n : Nat} (h : a.tre true n = true) : lIsi [a, .tup [.ty "tuple", .ty "list"]] L Q = Q (.bl (isSq a)) L := by
  cases a with
  | non => simp only [lIsi, lty, tn2, show anyN "NoneType" ["tuple", "list"] = some false by decide +kernel]; rfl
  | bl b => simp only [lIsi, lty, tn2, show anyN "bool" ["tuple", "list"] = some false by decide +kernel]; rfl
  | int b => simp only [lIsi, lty, tn2, show anyN "int" ["tuple", "list"] = some false by decide +kernel]; rfl
  | str b => simp only [lIsi, lty, tn2, show anyN "str" ["tuple", "list"] = some false by decide +kernel]; rfl
  | tup b => simp only [lIsi, lty, tn2, show anyN "tuple" ["tuple", "list"] = some true by decide +kernel]; rfl
  | lst b => simp only [lIsi, lty, tn2, show anyN "list" ["tuple", "list"] = some true by decide +kernel]; rfl
  | _ => simp [LV.tre] at h
def isT (n : String) : LV → Bool
  | .lst _ => n == "list"
  | .str _ => n == "str"
  | .bl _ => n == "bool" || n == "int"
  | .int _ => n == "int"
  | _ => false
theorem isi_t {a : LV} {n : Nat} (h : a.tre true n = true) {t : String} (ht : t = "list" ∨ t = "str" ∨ t = "bool" ∨ t = "int") : lIsi [a, .ty t] L Q = Q (.bl (isT t a)) L := by
  rcases ht with rfl | rfl | rfl | rfl
  · cases a with
    | non => simp only [lIsi, lty, show kitB "NoneType" "list" = some false by decide +kernel]; rfl
    | bl b => simp only [lIsi, lty, show kitB "bool" "list" = some false by decide +kernel]; rfl
    | int b => simp only [lIsi, lty, show kitB "int" "list" = some false by decide +kernel]; rfl
    | str b => simp only [lIsi, lty, show kitB "str" "list" = some false by decide +kernel]; rfl
    | tup b => simp only [lIsi, lty, show kitB "tuple" "list" = some false by decide +kernel]; rfl
    | lst b => simp only [lIsi, lty, show kitB "list" "list" = some true by decide +kernel]; rfl
    | _ => simp [LV.tre] at h
  · cases a with
    | non => simp only [lIsi, lty, show kitB "NoneType" "str" = some false by decide +kernel]; rfl
    | bl b => simp only [lIsi, lty, show kitB "bool" "str" = some false by decide +kernel]; rfl
    | int b => simp only [lIsi, lty, show kitB "int" "str" = some false by decide +kernel]; rfl
    | str b => simp only [lIsi, lty, show kitB "str" "str" = some true by decide +kernel]; rfl
    | tup b => simp only [lIsi, lty, show kitB "tuple" "str" = some false by decide +kernel]; rfl
    | lst b => simp only [lIsi, lty, show kitB "list" "str" = some false by decide +kernel]; rfl
    | _ => simp [LV.tre] at h
  · cases a with
    | non => simp only [lIsi, lty, show kitB "NoneType" "bool" = some false by decide +kernel]; rfl
    | bl b => simp only [lIsi, lty, show kitB "bool" "bool" = some true by decide +kernel]; rfl
    | int b => simp only [lIsi, lty, show kitB "int" "bool" = some false by decide +kernel]; rfl
    | str b => simp only [lIsi, lty, show kitB "str" "bool" = some false by decide +kernel]; rfl
    | tup b => simp only [lIsi, lty, show kitB "tuple" "bool" = some false by decide +kernel]; rfl
    | lst b => simp only [lIsi, lty, show kitB "list" "bool" = some false by decide +kernel]; rfl
    | _ => simp [LV.tre] at h
  · cases a with
    | non => simp only [lIsi, lty, show kitB "NoneType" "int" = some false by decide +kernel]; rfl
    | bl b => simp only [lIsi, lty, show kitB "bool" "int" = some true by decide +kernel]; rfl
    | int b => simp only [lIsi, lty, show kitB "int" "int" = some true by decide +kernel]; rfl
    | str b => simp only [lIsi, lty, show kitB "str" "int" = some false by decide +kernel]; rfl
    | tup b => simp only [lIsi, lty, show kitB "tuple" "int" = some false by decide +kernel]; rfl
    | lst b => simp only [lIsi, lty, show kitB "list" "int" = some false by decide +kernel]; rfl
    | _ => simp [LV.tre] at h
theorem upto_ints (n : Nat) : ∃ is : List Nat, upto n = is.map encK ∧ ∀ i, i ∈ is ↔ i < n := ⟨List.range n, rfl, fun i => List.mem_range⟩
theorem filterMap_nil {α β : Type} {f : α → Option β} {l : List α} : l.filterMap f = [] ↔ ∀ x ∈ l, f x = none := by
  induction l with
  | nil => simp
  | cons a l ih =>
    cases e : f a with
    | none => rw [List.filterMap_cons_none e]; simp [e, ih]
    | some b => rw [List.filterMap_cons_some e]; simp [e]
open Classical in
noncomputable def badAt (as bs : List LV) (l : LV) : Option LV := match l with
  | .int i => if as[i.toNat]? = bs[i.toNat]? then none else some l
  | _ => none
theorem bads_nil {as bs : List LV} (h : as.length = bs.length) : (upto bs.length).filterMap (badAt as bs) = [] ↔ as = bs := by
  rw [filterMap_nil]
  constructor
  · intro hh
    refine List.ext_getElem? fun i => ?_
    by_cases hi : i < bs.length
    · have := hh (.int i) (List.mem_map.mpr ⟨i, List.mem_range.mpr hi, rfl⟩)
      unfold badAt at this
      simp only [Int.toNat_natCast] at this
      by_cases c : as[i]? = bs[i]?
      · exact c
      · rw [if_neg c] at this
        cases this
    · rw [List.getElem?_eq_none (by omega), List.getElem?_eq_none (by omega)]
  · rintro rfl l hl
    obtain ⟨i, _, rfl⟩ := List.mem_map.mp hl
    simp [badAt]
theorem bads_tre {as bs : List LV} (n : Nat) : treAll false ((upto n).filterMap (badAt as bs)) 0 = true := treAll_iff.mpr fun l hl => by
  obtain ⟨x, hx, e⟩ := List.mem_filterMap.mp hl
  obtain ⟨i, _, rfl⟩ := List.mem_map.mp hx
  unfold badAt at e
  simp only at e
  split at e
  · cases e
  · cases e
    rfl
mutual
def LV.sml : LV → Bool
  | .tup ls => decide (ls.length ≤ 100000) && smlAll ls
  | .lst ls => decide (ls.length ≤ 100000) && smlAll ls
  | _ => true
def smlAll : List LV → Bool
  | [] => true
  | l :: ls => l.sml && smlAll ls
end
theorem smlAll_iff : ∀ {ls : List LV}, smlAll ls = true ↔ ∀ l ∈ ls, l.sml = true
  | [] => by simp [smlAll]
  | l :: ls => by simp [smlAll, smlAll_iff (ls := ls)]
/-- the end of two that are read item by item -/
theorem alike_seq {as bs : List LV} {d k : Nat} {x y : LV} (hx : x = .tup as ∨ x = .lst as) (hy : y = .tup bs ∨ y = .lst bs) (hl : as.length = bs.length) (hs : bs.length ≤ 100000) (ta : treAll true as k = true) (tb : treAll true bs d = true) (sb : smlAll bs = true)
    (ih : ∀ (a b : LV) (k : Nat) (Q : QL) (E : XL) (L : LHp), a.tre true k = true → b.tre true d = true → b.sml = true → (∀ r : Bool, (r = true ↔ a = b) → Q (.bl r) L) → cwk G m .l_alike [a, b] L Q E) (h : ∀ r : Bool, (r = true ↔ as = bs) → Q (.bl r) L) :
    goLc true (gNm 2) (xNotT (xTest (xCall 2 (cwk G m .l_alike) (xCons (xBin lIx (xVar 0) (xVar 2)) (xCons (xBin lIx (xVar 1) (xVar 2)) xNil))))) (xVar 2) [2] [some x, some y, none] (fun v L1 => lEq false v (.lst []) L1 Q) (upto bs.length) (fun _ => True) L := by
  refine lc_pure (badAt as bs) (by simp [upto]; exact sz hs) (fun _ _ _ => trivial) ?_ ?_
  · intro l hl2 A o K hA q
    obtain ⟨i, hi, rfl⟩ := List.mem_map.mp hl2
    have hi2 : i < bs.length := List.mem_range.mp hi
    have hi1 : i < as.length := by omega
    have xa : ∀ L Q, lIx x (.int i) L Q = Q as[i] L := fun L Q => by
      rcases hx with rfl | rfl
      · rw [ix_t, atI_nat (List.getElem?_eq_getElem hi1)]; rfl
      · rw [ix_l, atI_nat (List.getElem?_eq_getElem hi1)]; rfl
    have xb : ∀ L Q, lIx y (.int i) L Q = Q bs[i] L := fun L Q => by
      rcases hy with rfl | rfl
      · rw [ix_t, atI_nat (List.getElem?_eq_getElem hi2)]; rfl
      · rw [ix_l, atI_nat (List.getElem?_eq_getElem hi2)]; rfl
    unfold stepLc
    simp [lwipe, xa, xb]
    refine ih _ _ k _ _ _ (treAll_iff.mp ta _ (List.getElem_mem hi1)) (treAll_iff.mp tb _ (List.getElem_mem hi2)) (smlAll_iff.mp sb _ (List.getElem_mem hi2)) fun r hr => ?_
    unfold badAt at q
    simp only [Int.toNat_natCast] at q
    have e : (as[i]? = bs[i]?) ↔ as[i] = bs[i] := by rw [List.getElem?_eq_getElem hi1, List.getElem?_eq_getElem hi2, Option.some.injEq]
    cases r with
    | true =>
      rw [if_pos (e.mpr (hr.mp rfl))] at q
      simp
      exact q
    | false =>
      rw [if_neg (fun z => Bool.noConfusion (hr.mpr (e.mp z)))] at q
      simp
      exact q
  · refine o_eq_tree (n := 1) (m := 1) (k := ((upto bs.length).filterMap (badAt as bs)).isEmpty) (by simpa [LV.tre] using bads_tre _) (by rfl) (by omega) (by omega) (by simp) ?_
    simp
    refine h _ ?_
    rw [List.isEmpty_iff, bads_nil hl]
theorem alike_leaf {a b : LV} {k d : Nat} (hm : 1 ≤ m) (ha : a.tre true k = true) (hb : b.tre true d = true) (hq : isSq b = false) (h : ∀ r : Bool, (r = true ↔ a = b) → Q (.bl r) L) : cwk G m .l_alike [a, b] L Q E := by
  obtain ⟨m, rfl⟩ := Nat.exists_eq_add_of_le' hm
  show bodyC 2 3 (B_l_alike G (cwk G m)) _ _ _ _
  refine ⟨rfl, ?_⟩
  unfold B_l_alike
  have s2 : 2 ≤ sizeLine := sz (by decide)
  have A1 : ∀ Q, lIsi [a, .tup [.ty "tuple", .ty "list"]] L Q = Q (.bl (isSq a)) L := fun Q => isi_sq ha
  have B1 : ∀ Q, lIsi [b, .tup [.ty "tuple", .ty "list"]] L Q = Q (.bl (isSq b)) L := fun Q => isi_sq hb
  have A2 : ∀ Q, lIsi [a, .ty "str"] L Q = Q (.bl (isT "str" a)) L := fun Q => isi_t ha (by simp)
  have B2 : ∀ Q, lIsi [b, .ty "str"] L Q = Q (.bl (isT "str" b)) L := fun Q => isi_t hb (by simp)
  have A3 : ∀ Q, lIsi [a, .ty "bool"] L Q = Q (.bl (isT "bool" a)) L := fun Q => isi_t ha (by simp)
  have B3 : ∀ Q, lIsi [b, .ty "bool"] L Q = Q (.bl (isT "bool" b)) L := fun Q => isi_t hb (by simp)
  have A4 : ∀ Q, lIsi [a, .ty "int"] L Q = Q (.bl (isT "int" a)) L := fun Q => isi_t ha (by simp)
  have A5 : ∀ Q, lIsi [a, .ty "list"] L Q = Q (.bl (isT "list" a)) L := fun Q => isi_t ha (by simp)
  have B5 : ∀ Q, lIsi [b, .ty "list"] L Q = Q (.bl (isT "list" b)) L := fun Q => isi_t hb (by simp)
  simp [s2, B1]
  cases b with
  | tup bs => simp [isSq] at hq
  | lst bs => simp [isSq] at hq
  | non =>
    simp [isSq]
    exact retS (h _ (by cases a <;> simp [LV.isN]))
  | str y =>
    simp [isSq, B2, isT, A2]
    cases a with
    | str x => simp; exact retS (h _ (by simp))
    | _ => simp; exact retS (h _ (by simp))
  | bl y =>
    simp [isSq, B2, isT, A2, B3, A3]
    cases a with
    | bl x => simp; exact retS (h _ (by simp))
    | _ => simp; exact retS (h _ (by simp))
  | int y =>
    simp [isSq, B2, isT, A2, B3, A3]
    cases a with
    | bl x => simp [B3, A3, A4, isT]; exact retS (h _ (by simp))
    | int x => simp [B3, A3, A4, isT]; exact retS (h _ (by simp))
    | _ => simp [B3, A3, A4, isT]; exact retS (h _ (by simp))
  | _ => simp [LV.tre] at hb
theorem alike_s : ∀ (d : Nat) (a b : LV) (k : Nat) (Q : QL) (E : XL) (L : LHp) (m : Nat), d + 1 ≤ m → a.tre true k = true → b.tre true d = true → b.sml = true → (∀ r : Bool, (r = true ↔ a = b) → Q (.bl r) L) → cwk G m .l_alike [a, b] L Q E := by
  intro d
  induction d with
  | zero =>
    intro a b k Q E L m hm ha hb sb h
    refine alike_leaf (by omega) ha hb ?_ h
    cases b with
    | tup bs => simp [LV.tre] at hb
    | lst bs => simp [LV.tre] at hb
    | _ => rfl
  | succ d ih =>
    intro a b k Q E L m hm ha hb sb h
    by_cases hq : isSq b = false
    · exact alike_leaf (by omega) ha hb hq h
    obtain ⟨m, rfl⟩ := Nat.exists_eq_add_of_le' (show 1 ≤ m by omega)
    show bodyC 2 3 (B_l_alike G (cwk G m)) _ _ _ _
    refine ⟨rfl, ?_⟩
    unfold B_l_alike
    have s2 : 2 ≤ sizeLine := sz (by decide)
    have A1 : ∀ Q, lIsi [a, .tup [.ty "tuple", .ty "list"]] L Q = Q (.bl (isSq a)) L := fun Q => isi_sq ha
    have B1 : ∀ Q, lIsi [b, .tup [.ty "tuple", .ty "list"]] L Q = Q (.bl (isSq b)) L := fun Q => isi_sq hb
    have A2 : ∀ Q, lIsi [a, .ty "str"] L Q = Q (.bl (isT "str" a)) L := fun Q => isi_t ha (by simp)
    have B2 : ∀ Q, lIsi [b, .ty "str"] L Q = Q (.bl (isT "str" b)) L := fun Q => isi_t hb (by simp)
    have A3 : ∀ Q, lIsi [a, .ty "bool"] L Q = Q (.bl (isT "bool" a)) L := fun Q => isi_t ha (by simp)
    have B3 : ∀ Q, lIsi [b, .ty "bool"] L Q = Q (.bl (isT "bool" b)) L := fun Q => isi_t hb (by simp)
    have A4 : ∀ Q, lIsi [a, .ty "int"] L Q = Q (.bl (isT "int" a)) L := fun Q => isi_t ha (by simp)
    have A5 : ∀ Q, lIsi [a, .ty "list"] L Q = Q (.bl (isT "list" a)) L := fun Q => isi_t ha (by simp)
    have B5 : ∀ Q, lIsi [b, .ty "list"] L Q = Q (.bl (isT "list" b)) L := fun Q => isi_t hb (by simp)
    simp [s2, B1]
    have ih' : ∀ (a b : LV) (k : Nat) (Q : QL) (E : XL) (L : LHp), a.tre true k = true → b.tre true d = true → b.sml = true → (∀ r : Bool, (r = true ↔ a = b) → Q (.bl r) L) → cwk G m .l_alike [a, b] L Q E := fun a b k Q E L h1 h2 h3 h4 => ih a b k Q E L m (by omega) h1 h2 h3 h4
    have main : ∀ (as bs : List LV), (a = .tup as ∨ a = .lst as) → (b = .tup bs ∨ b = .lst bs) → as.length = bs.length → (as = bs ↔ a = b) →
        goLc true (gNm 2) (xNotT (xTest (xCall 2 (cwk G m .l_alike) (xCons (xBin lIx (xVar 0) (xVar 2)) (xCons (xBin lIx (xVar 1) (xVar 2)) xNil))))) (xVar 2) [2] [some a, some b, none] (fun v L1 => lEq false v (.lst []) L1 (retA Q)) (upto bs.length) (fun _ => True) L := fun as bs h1 h2 h3 h4 => by
      have ta : treAll true as (k - 1) = true := by
        rcases h1 with rfl | rfl <;> (simp only [LV.tre, Bool.and_eq_true] at ha; exact ha.2)
      have tb : treAll true bs d = true := by
        rcases h2 with rfl | rfl <;> (simp only [LV.tre, Bool.and_eq_true] at hb; exact hb.2)
      have sb' : bs.length ≤ 100000 ∧ smlAll bs = true := by
        rcases h2 with rfl | rfl <;> simpa [LV.sml] using sb
      exact alike_seq h1 h2 h3 sb'.1 ta tb sb'.2 ih' fun r hr => retS (h r (hr.trans h4))
    have len : ∀ bs, (b = .tup bs ∨ b = .lst bs) → (bs.length : Int) < 4611686018427387904 := fun bs h2 => by
      have sb' : bs.length ≤ 100000 := by
        rcases h2 with rfl | rfl <;> (simp only [LV.sml, Bool.and_eq_true, decide_eq_true_eq] at sb; exact sb.1)
      omega
    cases b with
    | tup bs =>
      have l2 := len bs (.inl rfl)
      simp [isSq, A1, s2]
      cases a with
      | tup as =>
        by_cases hl : as.length = bs.length
        · simp [isSq, A5, B5, isT, hl, l2]
          exact main as bs (.inl rfl) (.inl rfl) hl (by simp)
        · have hl' : ¬ (as.length : Int) = bs.length := by omega
          simp [isSq, A5, B5, isT, hl']
          exact retS (h _ (by simp; exact fun e => hl (by rw [e])))
      | lst as =>
        simp [isSq, A5, B5, isT]
        exact retS (h _ (by simp))
      | _ =>
        simp [isSq]
        exact retS (h _ (by simp))
    | lst bs =>
      have l2 := len bs (.inr rfl)
      simp [isSq, A1, s2]
      cases a with
      | lst as =>
        by_cases hl : as.length = bs.length
        · simp [isSq, A5, B5, isT, hl, l2]
          exact main as bs (.inr rfl) (.inr rfl) hl (by simp)
        · have hl' : ¬ (as.length : Int) = bs.length := by omega
          simp [isSq, A5, B5, isT, hl']
          exact retS (h _ (by simp; exact fun e => hl (by rw [e])))
      | tup as =>
        simp [isSq, A5, B5, isT]
        exact retS (h _ (by simp))
      | _ =>
        simp [isSq]
        exact retS (h _ (by simp))
    | _ => simp [isSq] at hq
end LK
set_option Elab.async false
set_option linter.all false
set_option maxRecDepth 100000
set_option maxHeartbeats 1000000
/-! What stands apart. -/
namespace LK
open PySem PySem.Spec PyProof.Rows L2
inductive OB where
  | hh
  | wd (w : Wd)
  | mm (n : Nr)
  | nr (n : Nr)
  | lst (xs : List LV)
  | jnk
  | lw (w : Wd)
  | dt (kvs : List (List Key × LV))
def IsO (G : GA) (L : LHp) (a : Addr) : OB → List Addr → Prop
  | .hh, S => IsH L a S
  | .wd w, S => IsW (rtW G) L a w S
  | .mm n, S => IsM L a n S
  | .nr n, S => IsN G L a n S
  | .lst xs, S => S = [a] ∧ L a = some (.lst xs)
  | .jnk, S => S = []
  | .lw w, S => IsW rtL L a w S
  | .dt kvs, S => S = [a] ∧ L a = some (.dtt kvs)
variable {G : GA} {L L' : LHp} {a b : Addr} {o o' : OB} {S S' : List Addr} {M : List (Addr × OB)}
theorem IsO.mono (h : IsO G L a o S) (m : ∀ x, x ∈ S → L' x = L x) : IsO G L' a o S := by
  cases o with
  | hh => exact IsH.mono h m
  | wd w => exact IsW.mono h m
  | mm n => exact IsM.mono h m
  | nr n => exact IsN.mono h m
  | lst xs =>
    obtain ⟨rfl, e⟩ := h
    exact ⟨rfl, by rw [m a (by simp)]; exact e⟩
  | jnk => exact h
  | lw w => exact IsW.mono h m
  | dt kvs =>
    obtain ⟨rfl, e⟩ := h
    exact ⟨rfl, by rw [m a (by simp)]; exact e⟩
theorem IsO.sm (h : IsO G L a o S) : ∀ x, x ∈ S → L x ≠ none := by
  cases o with
  | hh => exact IsH.sm h
  | wd w => exact IsW.sm h
  | mm n => exact IsM.sm h
  | nr n => exact IsN.sm h
  | lst xs =>
    obtain ⟨rfl, e⟩ := h
    intro x hx
    have : x = a := List.mem_singleton.mp hx
    rw [this, e]
    exact nofun
  | jnk =>
    have h' : S = [] := h
    subst h'
    intro x hx
    cases hx
  | lw w => exact IsW.sm h
  | dt kvs =>
    obtain ⟨rfl, e⟩ := h
    intro x hx
    have : x = a := List.mem_singleton.mp hx
    rw [this, e]
    exact nofun
def Holds (G : GA) (L : LHp) (M : List (Addr × OB)) : Prop := ∃ fp : Nat → List Addr, (∀ i a o, M[i]? = some (a, o) → IsO G L a o (fp i)) ∧ ∀ i j, i < M.length → j < M.length → i ≠ j → Disj (fp i) (fp j)
theorem Holds.at (h : Holds G L M) {i : Nat} (e : M[i]? = some (a, o)) : ∃ S, IsO G L a o S := by
  obtain ⟨fp, h1, h2⟩ := h
  exact ⟨_, h1 i a o e⟩
theorem Holds.foc (h : Holds G L M) (i : Nat) (e : M[i]? = some (a, o)) : ∃ S, IsO G L a o S ∧ (∀ L' o' S', IsO G L' a o' S' → Frame S L L' → Grow S S' L → Holds G L' (M.set i (a, o'))) ∧
    (∀ j b o2, j ≠ i → M[j]? = some (b, o2) → ∃ T, IsO G L b o2 T ∧ Disj T S) := by
  obtain ⟨fp, h1, h2⟩ := h
  have hi := (List.getElem?_eq_some_iff.mp e).1
  refine ⟨fp i, h1 i a o e, fun L' o' S' g1 g2 g3 => ?_, fun j b o2 hj ej => ⟨fp j, h1 j b o2 ej, h2 j i (List.getElem?_eq_some_iff.mp ej).1 hi hj⟩⟩
  refine ⟨fun j => if j = i then S' else fp j, fun j b o2 ej => ?_, fun j k hj hk ne => ?_⟩
  · by_cases c : j = i
    · subst c
      rw [List.getElem?_set_self hi] at ej
      cases ej
      simp only [if_pos]
      exact g1
    · rw [List.getElem?_set_ne (Ne.symm c)] at ej
      simp only [if_neg c]
      have d := h2 j i (List.getElem?_eq_some_iff.mp ej).1 hi c
      exact (h1 j b o2 ej).mono fun x hx => g2 x (d x hx) ((h1 j b o2 ej).sm x hx)
  · rw [List.length_set] at hj hk
    have key : ∀ j, j < M.length → j ≠ i → Disj S' (fp j) ∧ Disj (fp j) S' := fun j hj c => by
      have ej : M[j]? = some (M[j].1, M[j].2) := List.getElem?_eq_getElem hj
      have d1 := h2 j i hj hi c
      have d2 := h2 i j hi hj (Ne.symm c)
      have sm := (h1 j _ _ ej).sm
      exact ⟨fun x hx z => (g3 x hx).elim (fun q => d2 x q z) fun q => sm x z q, fun x hx z => (g3 x z).elim (fun q => d1 x hx q) fun q => sm x hx q⟩
    by_cases c : j = i
    · have c2 : k ≠ i := fun z => ne (c.trans z.symm)
      simp only [if_pos c, if_neg c2]
      exact (key k hk c2).1
    · by_cases c2 : k = i
      · simp only [if_neg c, if_pos c2]
        exact (key j hj c).2
      · simp only [if_neg c, if_neg c2]
        exact h2 j k hj hk ne
theorem Holds.frm (h : Holds G L M) (f : Frame [] L L') : Holds G L' M := by
  obtain ⟨fp, h1, h2⟩ := h
  exact ⟨fp, fun i a o e => (h1 i a o e).mono fun x hx => f x (by simp) ((h1 i a o e).sm x hx), h2⟩
theorem Holds.snoc (h : Holds G L M) (g : IsO G L' a o S) (f : Frame [] L L') (nw : ∀ x ∈ S, L x = none) : Holds G L' (M ++ [(a, o)]) := by
  obtain ⟨fp, h1, h2⟩ := h
  refine ⟨fun j => if j = M.length then S else fp j, fun j b o2 ej => ?_, fun j k hj hk ne => ?_⟩
  · by_cases c : j = M.length
    · subst c
      simp at ej
      obtain ⟨rfl, rfl⟩ := ej
      simp only [if_pos]
      exact g
    · have hj : j < M.length := by
        have := (List.getElem?_eq_some_iff.mp ej).1
        simp at this
        omega
      rw [List.getElem?_append_left hj] at ej
      simp only [if_neg c]
      exact (h1 j b o2 ej).mono fun x hx => f x (by simp) ((h1 j b o2 ej).sm x hx)
  · simp only [List.length_append, List.length_singleton] at hj hk
    have key : ∀ j, j < M.length → ∀ x ∈ fp j, x ∉ S := fun j hj x hx z => by
      have ej : M[j]? = some (M[j].1, M[j].2) := List.getElem?_eq_getElem hj
      exact (h1 j _ _ ej).sm x hx (nw x z)
    by_cases c : j = M.length
    · have c2 : k ≠ M.length := fun z => ne (c.trans z.symm)
      simp only [if_pos c, if_neg c2]
      exact fun x hx z => key k (by omega) x z hx
    · by_cases c2 : k = M.length
      · simp only [if_neg c, if_pos c2]
        exact key j (by omega)
      · simp only [if_neg c, if_neg c2]
        exact h2 j k (by omega) (by omega) ne
theorem Holds.left {M2 : List (Addr × OB)} (h : Holds G L (M ++ M2)) : Holds G L M := by
  obtain ⟨fp, h1, h2⟩ := h
  refine ⟨fp, fun i a o e => h1 i a o ?_, fun i j hi hj => h2 i j (by rw [List.length_append]; omega) (by rw [List.length_append]; omega)⟩
  rw [List.getElem?_append_left (List.getElem?_eq_some_iff.mp e).1]
  exact e
theorem Holds.nil : Holds G L [] := ⟨fun _ => [], fun i a o e => by simp at e, fun i j h => absurd h (Nat.not_lt_zero _)⟩
theorem Holds.foc_same (h : Holds G L M) (i : Nat) (e : M[i]? = some (a, o)) : ∃ S, IsO G L a o S ∧ (∀ L' S', IsO G L' a o S' → Frame S L L' → Grow S S' L → Holds G L' M) ∧
    (∀ j b o2, j ≠ i → M[j]? = some (b, o2) → ∃ T, IsO G L b o2 T ∧ Disj T S) := by
  obtain ⟨S, h1, h2, h3⟩ := h.foc i e
  refine ⟨S, h1, fun L' S' g1 g2 g3 => ?_, h3⟩
  have := h2 L' o S' g1 g2 g3
  rw [show M.set i (a, o) = M by
    refine List.ext_getElem? fun j => ?_
    by_cases c : i = j
    · subst c
      rw [List.getElem?_set_self (List.getElem?_eq_some_iff.mp e).1, e]
    · rw [List.getElem?_set_ne c]] at this
  exact this
theorem mid_at {α : Type} {b d : List α} {p : α} {t : List α} : (b ++ (d ++ p :: t))[b.length + d.length]? = some p := by
  rw [List.getElem?_append_right (by omega), List.getElem?_append_right (by omega)]
  simp
theorem mid_set {α : Type} {b d : List α} {p p' : α} {t : List α} : (b ++ (d ++ p :: t)).set (b.length + d.length) p' = b ++ (d ++ p' :: t) := by
  rw [List.set_append_right _ _ (by omega), List.set_append_right _ _ (by omega)]
  simp
end LK
set_option Elab.async false
set_option linter.all false
set_option maxRecDepth 100000
set_option maxHeartbeats 1000000
/-! done; are true; what is kept is what find tells. -/
namespace LK
open PySem PySem.Spec PyProof.Rows L2
variable {G : GA} {L : LHp} {a b : Addr} {S T : List Addr} {n : Nr} {w : Wd} {Q : QL} {E : XL} {m : Nat}
theorem fine_sz {s : Stp} (hf : s.fine) : (∀ k d b, s = .put k d b → d.length ≤ sizeLine) ∧ ∀ k d, s = .drop k d → d.length ≤ sizeLine := by
  constructor
  · rintro k d b rfl
    exact sz (by have := hf.1; omega)
  · rintro k d rfl
    exact sz (by have := hf.1; omega)
theorem orL {x y : LTE} {σ : LSt} {E : XL} (h : x σ L Q E) : xOrE x y σ L Q E := .inl h
theorem orR {x y : LTE} {σ : LSt} {E : XL} (h : y σ L Q E) : xOrE x y σ L Q E := .inr h
theorem wmeth {mth : Str} {f : Addr → LHp → Prop} {r : Addr → Addr → LO} (hr : ∀ le lo, r le lo = rtW G le lo) (hW : IsW r L a w S) (hm : ∀ le lo : Addr, List.lookup mth ([("elders", LV.ref le), ("own", LV.ref lo)] : List (Str × LV)) = none) : brM G.cW mth (.ref a) f L = f a L := by
  obtain ⟨le, lo, ds, _, _, ha, _⟩ := hW
  rw [hr] at ha
  exact brM_of ha (hm le lo)
/-- a change, done to a world -/
theorem done_w {s : Stp} (hm : 4 ≤ m) (hf : s.fine) (hs : ∀ i k, s ≠ .ask i k) (hc : w.chk s = none) (hw : Wok w) (hW : IsW (rtW G) L a w S) (k : ∀ L' S', IsW (rtW G) L' a (w.app s) S' → Frame S L L' → Grow S S' L → Q .non L') : cwk G m .l_done [.ref a, s.enc] L Q E := by
  obtain ⟨m, rfl⟩ := Nat.exists_eq_add_of_le' hm
  show bodyC 2 2 (B_l_done G (cwk G (m + 3))) _ _ _ _
  refine ⟨rfl, ?_⟩
  unfold B_l_done
  obtain ⟨z1, z2⟩ := fine_sz hf
  cases s with
  | ask i j => exact absurd rfl (hs i j)
  | add e =>
    simp [Stp.enc]
    refine orL ?_
    simp [wmeth (mth := "add") (fun _ _ => rfl) hW (fun _ _ => by rfl)]
    exact add_s (by omega) hw hW (fun _ L' S' h1 h2 h3 _ => retS (k L' S' h1 h2 h3)) fun x hx => by rw [hc] at hx; cases hx
  | put kk d b =>
    simp [Stp.enc]
    refine orL ?_
    simp [wmeth (mth := "put") (fun _ _ => rfl) hW (fun _ _ => by rfl)]
    exact put_s (by omega) hw (z1 _ _ _ rfl) hW (fun _ L' h1 h2 => retS (k L' S h1 h2 Grow.refl)) fun x hx => by rw [hc] at hx; cases hx
  | drop kk d =>
    simp [Stp.enc]
    refine orL ?_
    simp [wmeth (mth := "drop") (fun _ _ => rfl) hW (fun _ _ => by rfl)]
    exact drop_s (by omega) hw (z2 _ _ rfl) hW (fun _ L' h1 h2 => retS (k L' S h1 h2 Grow.refl)) fun x hx => by rw [hc] at hx; cases hx
  | turn kk e =>
    simp [Stp.enc]
    refine orL ?_
    simp [wmeth (mth := "turn") (fun _ _ => rfl) hW (fun _ _ => by rfl)]
    exact turn_s (by omega) hw hW (fun _ L' h1 h2 => retS (k L' S h1 h2 Grow.refl)) fun x hx => by rw [hc] at hx; cases hx
/-- a Near behind a change -/
def Nr.after (n : Nr) (s : Stp) : Nr := match s with
  | .add e => n.wd (n.w.app (.add e))
  | s => n.chg s
theorem Nok.after {n : Nr} (ok : Nok n) {s : Stp} (hs : ∀ i k, s ≠ .ask i k) (hc : n.w.chk s = none) : Nok (n.after s) := by
  cases s with
  | ask i k => exact absurd rfl (hs i k)
  | add e => exact ok.add hc
  | put k d b => exact ok.chg (fun e => nofun) hc
  | drop k d => exact ok.chg (fun e => nofun) hc
  | turn k e => exact ok.chg (fun e => nofun) hc
theorem after_w {n : Nr} {s : Stp} : (n.after s).w = n.w.app s := by cases s <;> rfl
theorem after_sp {n : Nr} {s : Stp} : (n.after s).sp = n.sp := by cases s <;> rfl
theorem nmt {mth : Str} {f : Addr → LHp → Prop} (hN : IsN G L a n S) (hm : ∀ (n : Nr) (aw ak : Addr), (fsN n aw ak).lookup mth = none) : brM G.cN mth (.ref a) f L = f a L := by
  obtain ⟨aw, ak, Sw, rfl, nd, ha, hk, hw⟩ := hN
  exact nmeth ha (hm _ _ _)
theorem done_n {s : Stp} (hm : 5 ≤ m) (hf : s.fine) (hs : ∀ i k, s ≠ .ask i k) (hc : n.w.chk s = none) (ok : Nok n) (hN : IsN G L a n S) (k : ∀ L' S', IsN G L' a (n.after s) S' → Frame S L L' → Grow S S' L → Q .non L') : cwk G m .l_done [.ref a, s.enc] L Q E := by
  obtain ⟨m, rfl⟩ := Nat.exists_eq_add_of_le' hm
  show bodyC 2 2 (B_l_done G (cwk G (m + 4))) _ _ _ _
  refine ⟨rfl, ?_⟩
  unfold B_l_done
  obtain ⟨z1, z2⟩ := fine_sz hf
  have far : ∀ {v : LV} {L' : LHp} {R : Prop}, R → R := fun h => h
  cases s with
  | ask i j => exact absurd rfl (hs i j)
  | add e =>
    simp [Stp.enc]
    refine orR ?_
    simp [nmt (mth := "add") hN (fun _ _ _ => by rfl)]
    exact nadd_s (by omega) ok hN (fun _ L' q S' _ _ h1 _ h2 h3 => ret_same (retS (k L' S' h1 h2 h3))) fun x hx => by rw [hc] at hx; cases hx
  | put kk d b =>
    simp [Stp.enc]
    refine orR ?_
    simp [nmt (mth := "put") hN (fun _ _ _ => by rfl)]
    exact nput_s (by omega) ok (z1 _ _ _ rfl) hN (fun _ L' q _ _ h1 h2 => ret_same (retS (k L' S h1 h2 Grow.refl))) fun x hx => by rw [hc] at hx; cases hx
  | drop kk d =>
    simp [Stp.enc]
    refine orR ?_
    simp [nmt (mth := "drop") hN (fun _ _ _ => by rfl)]
    exact ndrop_s (by omega) ok (z2 _ _ rfl) hN (fun _ L' q _ _ h1 h2 => ret_same (retS (k L' S h1 h2 Grow.refl))) fun x hx => by rw [hc] at hx; cases hx
  | turn kk e =>
    simp [Stp.enc]
    refine orR ?_
    simp [nmt (mth := "turn") hN (fun _ _ _ => by rfl)]
    exact nturn_s (by omega) ok hN (fun _ L' q _ _ h1 h2 => ret_same (retS (k L' S h1 h2 Grow.refl))) fun x hx => by rw [hc] at hx; cases hx
/-- what is kept is what find tells -/
def Tru (n : Nr) (w : Wd) : Prop := ∀ i, i < n.sp.length → ∀ e ∈ n.at i, e.2 = w.fnd e.1 (n.lt i)
theorem entries_f {i : Int} (hm : 2 ≤ m) (ok : Nok n) (hN : IsN G L a n S) (hi : 0 ≤ i ∧ i < n.sp.length) (h : Q (.lst ((n.at i.toNat).map encN)) L) : cwk G m .Near_entries [.ref a, .int i] L Q E :=
  entries_s hm ok hN (fun _ q hq => ret_frz lup_same (by rw [ler_lup hq]; exact h)) fun z => absurd hi z
theorem encF_t {f : Option (Nat × Int)} : (encF f).tre true 1 = true := by cases f <;> rfl
theorem encF_sml {f : Option (Nat × Int)} : (encF f).sml = true := by cases f <;> rfl
theorem are_true_s (hm : 4 ≤ m) (ok : Nok n) (hN : IsN G L a n S) (hw : Wok w) (hW : IsW (rtW G) L b w T) (hl : n.w.el.length = w.el.length) (tr : Tru n w) (h : Q (.bl true) L) : cwk G m .l_are_true [.ref a, .str n.sp, .ref b] L Q E := by
  obtain ⟨m, rfl⟩ := Nat.exists_eq_add_of_le' hm
  show bodyC 3 6 (B_l_are_true G (cwk G (m + 3))) _ _ _ _
  refine ⟨rfl, ?_⟩
  unfold B_l_are_true
  have spl := ok.spl
  have s8 := ok.hi
  have m1 : ∀ f, brM G.cN "entries" (.ref a) f L = f a L := fun f => nmt hN (fun _ _ _ => by rfl)
  have m2 : ∀ f, brM G.cW "find" (.ref b) f L = f b L := fun f => wmeth (fun _ _ => rfl) hW (fun _ _ => by rfl)
  simp [spl]
  refine ⟨by omega, ?_⟩
  rw [upto_rng]
  refine forGo_ind (fun ls σ L' => ∃ i o3 o4 o5, i ≤ n.sp.length ∧ ls = rng i (n.sp.length - i) ∧ σ = [some (.ref a), some (.str n.sp), some (.ref b), o3, o4, o5] ∧ L' = L) ⟨0, none, none, none, Nat.zero_le _, rfl, rfl, rfl⟩ ?_ ?_
  · rintro σ L' ⟨i, o3, o4, o5, hi, hls, rfl, rfl⟩
    simp
    exact retS h
  · rintro l ls σ L' N ⟨i, o3, o4, o5, hi, hls, rfl, rfl⟩ hN2
    have hlt : i < n.sp.length := by
      by_cases c : i < n.sp.length
      · exact c
      · have : n.sp.length - i = 0 := by omega
        rw [this] at hls
        cases hls
    obtain ⟨j, ej⟩ : ∃ j, n.sp.length - i = j + 1 := ⟨n.sp.length - i - 1, by omega⟩
    rw [ej, rng_succ] at hls
    obtain ⟨rfl, rfl⟩ := List.cons.inj hls
    simp [m1]
    refine entries_f (by omega) ok hN (by omega) ?_
    simp
    refine forGo_ind (fun ls σ L2 => ∃ (r : List Ent) (o4 o5 : Option LV), (∀ e ∈ r, e ∈ n.at i) ∧ ls = r.map encN ∧ σ = [some (.ref a), some (.str n.sp), some (.ref b), some (.int i), o4, o5] ∧ L2 = L') ⟨n.at i, o4, o5, fun e h => h, rfl, rfl, rfl⟩ ?_ ?_
    · rintro σ L2 ⟨r, o4, o5, hr, hls, rfl, rfl⟩
      exact hN2 _ _ ⟨i + 1, _, _, _, hlt, by congr 1; omega, rfl, rfl⟩ trivial
    · rintro l ls σ L2 N ⟨r, o4, o5, hr, hls, rfl, rfl⟩ hN3
      cases r with
      | nil => cases hls
      | cons e r =>
        obtain ⟨rfl, rfl⟩ := List.cons.inj hls
        have he := hr e List.mem_cons_self
        have hk := (ok.entries hlt).2.2 e he
        have xl : ∀ Q, lIx (.str n.sp) (.int i) L2 Q = Q (.str (n.lt i)) L2 := fun Q => ix_s spl hlt
        simp [encN, tupOf, setAll, m2, xl]
        have hlt2 := ok.lt hlt
        refine find_s (by omega) hw (sz (by rw [lts_len hlt2]; omega)) hW (fun _ _ => ?_) (fun z => absurd (show w.okK e.1 from ⟨by omega, by omega⟩) z) fun _ z => absurd hlt2 z
        simp only [Int.toNat_natCast]
        refine alike_s 1 _ _ 1 _ _ _ _ (by omega) encF_t encF_t encF_sml fun r hr2 => ?_
        have : r = true := hr2.mpr (by rw [tr i hlt e he])
        subst this
        simp
        exact hN3 _ _ ⟨r, _, _, fun e' he' => hr e' (List.mem_cons_of_mem _ he'), rfl, rfl, rfl⟩ trivial
end LK
set_option Elab.async false
set_option linter.all false
set_option maxRecDepth 100000
set_option maxHeartbeats 1000000
/-! What is kept is what find tells, plainly. -/
namespace LK
open PySem PySem.Spec PyProof.Rows L2
theorem findSome_congr {α β : Type} {f g : α → Option β} : ∀ {l : List α}, (∀ x ∈ l, f x = g x) → l.findSome? f = l.findSome? g
  | [], _ => rfl
  | a :: l, h => by
    rw [List.findSome?_cons, List.findSome?_cons, h a List.mem_cons_self, findSome_congr fun x hx => h x (List.mem_cons_of_mem _ hx)]
theorem vl_dl {o : List (Str × Int)} {x y : Str} (h : x ≠ y) : vl (dl o x) y = vl o y := by
  unfold dl
  induction o with
  | nil => rfl
  | cons p o ih =>
    obtain ⟨a, b⟩ := p
    rw [List.filter_cons]
    by_cases c : a = x
    · subst c
      simp
      rw [vl_cons, if_neg h]
      simpa using ih
    · simp [c]
      rw [vl_cons, vl_cons]
      by_cases c2 : a = y
      · simp [c2]
      · simp [c2]
        simpa using ih
theorem dic_set {w : Wd} {k i : Nat} {o : List (Str × Int)} {el : List (Option Nat)} (hk : k < w.own.length) : (Wd.mk el (w.own.set k o)).dic i = if k = i then o else w.dic i := by
  unfold Wd.dic
  by_cases c : k = i
  · subst c
    simp [hk]
  · simp [c]
theorem up_el {w w' : Wd} (h : w'.el = w.el) (j : Nat) : w'.up j = w.up j := by
  unfold Wd.up
  rw [h]
/-- another deed is found as before -/
theorem fnd_deed {w : Wd} (hw : Wok w) {s : Stp} (hc : w.chk s = none) {x y : Str} (hs : s.tk.2 = some x) (hx : x ≠ y) (j : Nat) : (w.app s).fnd j y = w.fnd j y := by
  cases s with
  | put k d b =>
    have e : d = x := Option.some.inj hs
    subst e
    have hk : w.okK k := by
      simp only [Wd.chk] at hc
      split at hc
      · assumption
      · cases hc
    have hk2 : k.toNat < w.own.length := by
      have h1 : 0 ≤ k ∧ k < w.el.length := hk
      rw [← hw.len]
      omega
    unfold Wd.fnd
    rw [up_el (w := w) (by rfl)]
    refine findSome_congr fun i _ => ?_
    unfold Wd.hit
    simp only [Wd.app]
    rw [dic_set hk2]
    split
    · rename_i c
      subst c
      rw [vl_pl, if_neg hx]
    · rfl
  | drop k d =>
    have e : d = x := Option.some.inj hs
    subst e
    have hk : w.okK k := by
      simp only [Wd.chk] at hc
      split at hc
      · assumption
      · cases hc
    have hk2 : k.toNat < w.own.length := by
      have h1 : 0 ≤ k ∧ k < w.el.length := hk
      rw [← hw.len]
      omega
    unfold Wd.fnd
    rw [up_el (w := w) (by rfl)]
    refine findSome_congr fun i _ => ?_
    unfold Wd.hit
    simp only [Wd.app]
    rw [dic_set hk2]
    split
    · rename_i c
      subst c
      rw [vl_dl hx]
    · rfl
  | add e => cases hs
  | turn k e => cases hs
  | ask i k => cases hs
/-- a kind that is not below the changed one finds what it found -/
theorem fnd_out {w : Wd} (hw : Wok w) {s : Stp} (ha : ∀ e, s ≠ .add e) (hq : ∀ i k, s ≠ .ask i k) (hc : w.chk s = none) {j : Nat} (hj : j < w.el.length) (ho : ¬ ∃ i ∈ w.up j, (i : Int) = s.tk.1) (y : Str) : (w.app s).fnd j y = w.fnd j y := by
  have okk : w.okK s.tk.1 := by
    cases s with
    | add e => exact absurd rfl (ha e)
    | ask i k => exact absurd rfl (hq i k)
    | put k d b =>
      simp only [Wd.chk] at hc
      split at hc
      · assumption
      · cases hc
    | drop k d =>
      simp only [Wd.chk] at hc
      split at hc
      · assumption
      · cases hc
    | turn k e =>
      simp only [Wd.chk] at hc
      split at hc
      · assumption
      · cases hc
  obtain ⟨k, hk, hk2⟩ := okK_nat okk
  have hn : k ∉ w.up j := fun z => ho ⟨k, z, hk.symm⟩
  have hk3 : k < w.own.length := by rw [← hw.len]; exact hk2
  cases s with
  | add e => exact absurd rfl (ha e)
  | ask i k => exact absurd rfl (hq i k)
  | put k' d b =>
    have e1 : k' = k := hk
    subst e1
    unfold Wd.fnd
    rw [up_el (w := w) (by rfl)]
    refine findSome_congr fun i hi => ?_
    unfold Wd.hit
    simp only [Wd.app, Int.toNat_natCast]
    rw [dic_set hk3, if_neg (show ¬ k = i from fun e => hn (e ▸ hi))]
  | drop k' d =>
    have e1 : k' = k := hk
    subst e1
    unfold Wd.fnd
    rw [up_el (w := w) (by rfl)]
    refine findSome_congr fun i hi => ?_
    unfold Wd.hit
    simp only [Wd.app, Int.toNat_natCast]
    rw [dic_set hk3, if_neg (show ¬ k = i from fun e => hn (e ▸ hi))]
  | turn k' e =>
    have e1 : k' = k := hk
    subst e1
    have hu := (hw.up j hj).keep (x := e.map Int.toNat) hn
    have e2 : (w.app (.turn (k : Int) e)).up j = w.up j := Wd.up_of (w := w.app (.turn (k : Int) e)) (by simpa [Wd.app] using hu)
    unfold Wd.fnd
    rw [e2]
    rfl
theorem fnd_add {w : Wd} (hw : Wok w) {e : Option Int} {j : Nat} (hj : j < w.el.length) (y : Str) : (w.app (.add e)).fnd j y = w.fnd j y := by
  have e2 : (w.app (.add e)).up j = w.up j := Wd.up_of (w := w.app (.add e)) (hw.up j hj).snoc
  unfold Wd.fnd
  rw [e2]
  refine findSome_congr fun i hi => ?_
  have hi2 := ((hw.up j hj).mem i hi).1
  rw [hw.len] at hi2
  unfold Wd.hit Wd.dic
  simp only [Wd.app]
  rw [List.getElem?_append_left hi2]
theorem left_mem {n : Nr} {tc : TC} {i : Nat} {e : Ent} (h : e ∈ n.left tc i) : e ∈ n.at i ∧ n.goes tc i e = false := by
  have := List.mem_filter.mp h
  exact ⟨this.1, by simpa using this.2⟩
theorem lt_after {n : Nr} {s : Stp} {i : Nat} : (n.after s).lt i = n.lt i := by
  unfold Nr.lt
  rw [after_sp]
theorem Tru.after {n : Nr} (ok : Nok n) (tr : Tru n n.w) {s : Stp} (hq : ∀ i k, s ≠ .ask i k) (hc : n.w.chk s = none) : Tru (n.after s) (n.w.app s) := by
  intro i hi e he
  rw [after_sp] at hi
  rw [lt_after]
  have main : ∀ s, (∀ e, s ≠ .add e) → (∀ i k, s ≠ .ask i k) → n.w.chk s = none → e ∈ (n.chg s).at i → e.2 = (n.w.app s).fnd e.1 (n.lt i) := fun s ha hq hc he => by
    have ok' := ok.wd (ok.w.app hc) (Nat.le_of_eq (app_len ha).symm)
    rw [show (n.chg s).at i = ((n.wd (n.w.app s)).fgot (n.tcs s)).at i from rfl, fgot_at ok' hi] at he
    obtain ⟨h1, h2⟩ := left_mem he
    have h1' : e ∈ n.at i := h1
    have hk := (ok.entries hi).2.2 e h1'
    unfold Nr.goes at h2
    by_cases cj : (n.wd (n.w.app s)).rule = "just"
    · rw [if_pos cj] at h2
      have h3 : (n.wd (n.w.app s)).same i e = true := by simpa using h2
      unfold Nr.same at h3
      exact (of_decide_eq_true h3).symm
    · rw [if_neg cj] at h2
      have h3 : n.tb s.tk.1 s.tk.2 i e.1 = false := h2
      unfold Nr.tb at h3
      have h4 := of_decide_eq_false h3
      rw [not_or] at h4
      have told := tr i hi e h1'
      by_cases cd : s.tk.2 = none ∨ s.tk.2 = some (n.lt i)
      · have h5 : ¬ (n.rule ≠ "below" ∨ ∃ j ∈ n.w.up e.1, (j : Int) = s.tk.1) := fun z => h4.2 ⟨z, cd⟩
        rw [not_or] at h5
        rw [fnd_out ok.w ha hq hc hk h5.2]
        exact told
      · rw [not_or] at cd
        cases ed : s.tk.2 with
        | none => exact absurd ed cd.1
        | some x =>
          have hx : x ≠ n.lt i := fun z => cd.2 (by rw [ed, z])
          rw [fnd_deed ok.w hc ed hx]
          exact told
  cases s with
  | ask i k => exact absurd rfl (hq i k)
  | add el =>
    have he' : e ∈ n.at i := he
    have hk := (ok.entries hi).2.2 e he'
    rw [fnd_add ok.w hk]
    exact tr i hi e he'
  | put k d b => exact main _ (fun e => nofun) hq hc he
  | drop k d => exact main _ (fun e => nofun) hq hc he
  | turn k el => exact main _ (fun e => nofun) hq hc he
theorem at_set {n n' : Nr} (ok : Nok n) {i j : Nat} {es : List Ent} (e : n'.kept = n.kept.set i es) (hi : i < n.sp.length) : n'.at j = if i = j then es else n.at j := by
  unfold Nr.at
  rw [e]
  by_cases c : i = j
  · subst c
    rw [List.getElem?_set_self (by rw [ok.len]; exact hi)]
    simp
  · rw [List.getElem?_set_ne c]
    simp [c]
theorem Tru.asked {n : Nr} (ok : Nok n) (tr : Tru n n.w) {i k : Nat} (hi : i < n.sp.length) : Tru (n.asked i k) n.w ∧ (n.asked i k).sp = n.sp ∧ (n.asked i k).w = n.w ∧ (n.ans i k).1 = n.w.fnd k (n.lt i) := by
  have oth : ∀ e ∈ n.oth i k, e ∈ n.at i := fun e he => (List.mem_filter.mp he).1
  have key : ∀ (n' : Nr) (es : List Ent) f, n'.kept = n.kept.set i (es ++ [(k, f)]) → n'.sp = n.sp → (∀ e ∈ es, e ∈ n.at i) → f = n.w.fnd k (n.lt i) → Tru n' n.w := fun n' es f h1 h2 h3 h4 => by
    intro j hj e he
    rw [h2] at hj
    have hlt : n'.lt j = n.lt j := by unfold Nr.lt; rw [h2]
    rw [hlt]
    rw [at_set ok h1 hi] at he
    by_cases c : i = j
    · subst c
      rw [if_pos rfl] at he
      rcases List.mem_append.mp he with he | he
      · exact tr i hi e (h3 e he)
      · have : e = (k, f) := List.mem_singleton.mp he
        rw [this]
        exact h4
    · rw [if_neg c] at he
      exact tr j hj e he
  unfold Nr.asked Nr.ans
  cases hv : vl (n.at i) k with
  | some f =>
    have hf : f = n.w.fnd k (n.lt i) := tr i hi (k, f) (vl_mem hv)
    exact ⟨key _ _ f rfl rfl oth hf, rfl, rfl, hf⟩
  | none =>
    simp only
    split
    · exact ⟨key _ _ _ rfl rfl (fun e he => oth e (List.mem_of_mem_drop he)) rfl, rfl, rfl, trivial⟩
    · exact ⟨key _ _ _ rfl rfl oth rfl, rfl, rfl, trivial⟩
theorem Tru.new {sp : Str} {wide : Nat} {rule : Str} {w : Wd} : Tru (.new sp wide rule) w := fun i hi e he => by
  have : (Nr.new sp wide rule).at i = [] := by
    have hi' : i < sp.length := hi
    simp [Nr.at, Nr.new, hi']
  rw [this] at he
  cases he
end LK
set_option Elab.async false
set_option linter.all false
set_option maxRecDepth 100000
set_option maxHeartbeats 1000000
/-! What the law keeps of a Near: its parts, changed. -/
namespace LK
open PySem PySem.Spec PyProof.Rows L2
theorem nin {x y : Addr} {S : List Addr} (hy : y ∉ S) (hx : x ∈ S) : y ≠ x := fun e => hy (e ▸ hx)
theorem nin' {x y : Addr} {S : List Addr} (hy : y ∉ S) (hx : x ∈ S) : x ≠ y := fun e => hy (e ▸ hx)
structure MAt (L : LHp) (a : Addr) (n : Nr) (aw ak ac : Addr) (ks Sw : List Addr) : Prop where
  nd : (a :: ak :: ac :: (ks ++ Sw)).Nodup
  rt : L a = some (rtM n aw ak ac)
  kp : L ak = some (.lst (ks.map LV.ref))
  cn : L ac = some (.lst [.int n.hits, .int n.misses, .int n.fgt, .int n.thr])
  len : ks.length = n.kept.length
  es : ∀ (i : Nat) (d : Addr), ks[i]? = some d → L d = some (.lst ((n.at i).map encN))
  wd : IsW rtL L aw n.w Sw
section
variable {G : GA} {L L' : LHp} {a aw ak ac : Addr} {n : Nr} {S ks Sw Sw' : List Addr} {Q : QL} {w' : Wd}
theorem IsM.parts (h : IsM L a n S) : ∃ aw ak ac ks Sw, S = a :: ak :: ac :: (ks ++ Sw) ∧ MAt L a n aw ak ac ks Sw := by
  obtain ⟨aw, ak, ac, ks, Sw, rfl, nd, h1, h2, h3, h4, h5, h6⟩ := h
  exact ⟨aw, ak, ac, ks, Sw, rfl, nd, h1, h2, h3, h4, h5, h6⟩
theorem MAt.isM (h : MAt L a n aw ak ac ks Sw) : IsM L a n (a :: ak :: ac :: (ks ++ Sw)) := ⟨aw, ak, ac, ks, Sw, rfl, h.nd, h.rt, h.kp, h.cn, h.len, h.es, h.wd⟩
theorem MAt.mono (h : MAt L a n aw ak ac ks Sw) (m : ∀ x, x ∈ a :: ak :: ac :: (ks ++ Sw) → L' x = L x) : MAt L' a n aw ak ac ks Sw :=
  ⟨h.nd, by rw [m _ (by simp)]; exact h.rt, by rw [m _ (by simp)]; exact h.kp, by rw [m _ (by simp)]; exact h.cn, h.len, fun i d e => by rw [m _ (by simp [List.mem_of_getElem? e])]; exact h.es i d e, h.wd.mono fun x hx => m x (by simp [hx])⟩
theorem MAt.sm (h : MAt L a n aw ak ac ks Sw) : ∀ x, x ∈ a :: ak :: ac :: (ks ++ Sw) → L x ≠ none := h.isM.sm
theorem MAt.ne (h : MAt L a n aw ak ac ks Sw) {p : Addr} (hp : L p = none) : ∀ x, x ∈ a :: ak :: ac :: (ks ++ Sw) → x ≠ p := fun x hx e => h.sm x hx (e ▸ hp)
theorem MAt.lup (h : MAt L a n aw ak ac ks Sw) {p : Addr} {o : LO} (hp : p ∉ a :: ak :: ac :: (ks ++ Sw)) : MAt (lup L p o) a n aw ak ac ks Sw := h.mono fun x hx => lup_ne fun e => hp (e ▸ hx)
structure NdM (a aw ak ac : Addr) (ks Sw : List Addr) : Prop where
  a1 : a ≠ ak
  a2 : a ≠ ac
  a3 : a ∉ ks
  a4 : a ∉ Sw
  k1 : ak ≠ ac
  k2 : ak ∉ ks
  k3 : ak ∉ Sw
  c1 : ac ∉ ks
  c2 : ac ∉ Sw
  s1 : ks.Nodup
  s2 : Sw.Nodup
  s3 : ∀ x ∈ ks, x ∉ Sw
theorem ndM : (a :: ak :: ac :: (ks ++ Sw)).Nodup ↔ NdM a aw ak ac ks Sw := by
  constructor
  · intro h
    simp only [List.nodup_cons, List.mem_cons, List.mem_append, not_or, List.nodup_append] at h
    obtain ⟨⟨a1, a2, a3, a4⟩, ⟨k1, k2, k3⟩, ⟨c1, c2⟩, s1, s2, s3⟩ := h
    exact ⟨a1, a2, a3, a4, k1, k2, k3, c1, c2, s1, s2, fun x hx hy => s3 x hx x hy rfl⟩
  · rintro ⟨a1, a2, a3, a4, k1, k2, k3, c1, c2, s1, s2, s3⟩
    simp only [List.nodup_cons, List.mem_cons, List.mem_append, not_or, List.nodup_append]
    exact ⟨⟨a1, a2, a3, a4⟩, ⟨k1, k2, k3⟩, ⟨c1, c2⟩, s1, s2, fun x hx y hy e => s3 x hx (e ▸ hy)⟩
theorem MAt.ap (h : MAt L a n aw ak ac ks Sw) : NdM a aw ak ac ks Sw := ndM.mp h.nd
theorem kset_at {n n' : Nr} {i j : Nat} {es : List Ent} (hi : i < n.kept.length) (e : n'.kept = n.kept.set i es) : n'.at j = if i = j then es else n.at j := by
  unfold Nr.at
  rw [e]
  by_cases c : i = j
  · subst c
    rw [List.getElem?_set_self hi, if_pos rfl]
    rfl
  · rw [List.getElem?_set_ne c, if_neg c]
/-- the entries of a spot, in place -/
theorem MAt.putE (h : MAt L a n aw ak ac ks Sw) {i : Nat} {d : Addr} {es : List Ent} (hd : ks[i]? = some d) : MAt (LK.lup L d (.lst (es.map encN))) a { n with kept := n.kept.set i es } aw ak ac ks Sw := by
  have p := h.ap
  have md := List.mem_of_getElem? hd
  have hi : i < n.kept.length := by rw [← h.len]; exact (List.getElem?_eq_some_iff.mp hd).1
  refine ⟨h.nd, by rw [lup_ne (nin p.a3 md)]; exact h.rt, by rw [lup_ne (nin p.k2 md)]; exact h.kp, by rw [lup_ne (nin p.c1 md)]; exact h.cn, by rw [List.length_set]; exact h.len, fun j d' e => ?_, h.wd.mono fun x hx => lup_ne (nin' (p.s3 d md) hx)⟩
  rw [kset_at (n := n) (i := i) (es := es) hi rfl]
  by_cases c : i = j
  · subst c
    rw [hd] at e
    cases e
    rw [lup_same, if_pos rfl]
  · rw [lup_ne (show d' ≠ d from fun z => c (nodup_ix p.s1 hd (by rw [← z]; exact e))), if_neg c]
    exact h.es j d' e
theorem MAt.cnt (h : MAt L a n aw ak ac ks Sw) {x1 x2 x3 x4 : Int} : MAt (LK.lup L ac (.lst [.int x1, .int x2, .int x3, .int x4])) a { n with hits := x1, misses := x2, fgt := x3, thr := x4 } aw ak ac ks Sw := by
  have p := h.ap
  exact ⟨h.nd, by rw [lup_ne p.a2]; exact h.rt, by rw [lup_ne p.k1]; exact h.kp, lup_same, h.len, fun j d e => by rw [lup_ne (nin' p.c1 (List.mem_of_getElem? e))]; exact h.es j d e, h.wd.mono fun x hx => lup_ne (nin' p.c2 hx)⟩
theorem MAt.ndl (h : MAt L a n aw ak ac ks Sw) {v : Int} : MAt (LK.lup L a (rtM { n with ndl := v } aw ak ac)) a { n with ndl := v } aw ak ac ks Sw := by
  have p := h.ap
  exact ⟨h.nd, lup_same, by rw [lup_ne (Ne.symm p.a1)]; exact h.kp, by rw [lup_ne (Ne.symm p.a2)]; exact h.cn, h.len, fun j d e => by rw [lup_ne (nin' p.a3 (List.mem_of_getElem? e))]; exact h.es j d e, h.wd.mono fun x hx => lup_ne (nin' p.a4 hx)⟩
/-- another list for a spot -/
theorem MAt.newE (h : MAt L a n aw ak ac ks Sw) {i : Nat} {p : Addr} {es : List Ent} (hi : i < ks.length) (hp : L p = some (.lst (es.map encN))) (hn : p ∉ a :: ak :: ac :: (ks ++ Sw)) :
    MAt (LK.lup L ak (.lst ((ks.set i p).map LV.ref))) a { n with kept := n.kept.set i es } aw ak ac (ks.set i p) Sw := by
  have q := h.ap
  simp only [List.mem_cons, List.mem_append, not_or] at hn
  obtain ⟨n1, n2, n3, n4, n5⟩ := hn
  have ms : ∀ x ∈ ks.set i p, x ∈ ks ∨ x = p := fun x hx => List.mem_or_eq_of_mem_set hx
  have nds : (ks.set i p).Nodup := by
    rw [List.nodup_iff_pairwise_ne, List.pairwise_iff_getElem]
    intro j k hj hk hjk
    rw [List.length_set] at hj hk
    have pw := List.pairwise_iff_getElem.mp (List.nodup_iff_pairwise_ne.mp q.s1) j k hj hk hjk
    rw [List.getElem_set, List.getElem_set]
    split <;> split
    · omega
    · exact fun e => n4 (e ▸ List.getElem_mem hk)
    · exact fun e => n4 (e ▸ List.getElem_mem hj)
    · exact pw
  have nd2 : NdM a aw ak ac (ks.set i p) Sw := ⟨q.a1, q.a2, fun z => (ms _ z).elim q.a3 (fun e => n1 e.symm), q.a4, q.k1, fun z => (ms _ z).elim q.k2 (fun e => n2 e.symm), q.k3, fun z => (ms _ z).elim q.c1 (fun e => n3 e.symm), q.c2, nds, q.s2, fun x hx => (ms x hx).elim (q.s3 x) (fun e => e ▸ n5)⟩
  refine ⟨ndM.mpr nd2, by rw [lup_ne q.a1]; exact h.rt, lup_same, by rw [lup_ne (Ne.symm q.k1)]; exact h.cn, by rw [List.length_set, List.length_set]; exact h.len, fun j d e => ?_, h.wd.mono fun x hx => lup_ne (nin' q.k3 hx)⟩
  have hd2 : d ≠ ak := fun z => (ms d (List.mem_of_getElem? e)).elim (fun y => q.k2 (z ▸ y)) (fun y => n2 (y.symm.trans z))
  rw [lup_ne hd2, kset_at (n := n) (i := i) (es := es) (by rw [← h.len]; exact hi) rfl]
  by_cases c : i = j
  · subst c
    rw [List.getElem?_set_self hi] at e
    cases e
    rw [if_pos rfl]
    exact hp
  · rw [List.getElem?_set_ne c] at e
    rw [if_neg c]
    exact h.es j d e
/-- another world -/
theorem MAt.wrld (h : MAt L a n aw ak ac ks Sw) (hw : IsW rtL L' aw w' Sw') (f : Frame Sw L L') (g : Grow Sw Sw' L) : MAt L' a (n.wd w') aw ak ac ks Sw' := by
  have q := h.ap
  have kk : ∀ x, x ∈ a :: ak :: ac :: ks → x ∉ Sw ∧ x ∉ Sw' ∧ L' x = L x := fun x hx => by
    have h1 : x ∉ Sw := by
      rcases List.mem_cons.mp hx with rfl | hx
      · exact q.a4
      rcases List.mem_cons.mp hx with rfl | hx
      · exact q.k3
      rcases List.mem_cons.mp hx with rfl | hx
      · exact q.c2
      · exact q.s3 x hx
    have h2 : L x ≠ none := h.sm x (by
      simp only [List.mem_cons, List.mem_append] at hx ⊢
      rcases hx with z | z | z | z
      · exact .inl z
      · exact .inr (.inl z)
      · exact .inr (.inr (.inl z))
      · exact .inr (.inr (.inr (.inl z))))
    exact ⟨h1, fun z => (g x z).elim h1 h2, f x h1 h2⟩
  have ka := kk a (by simp)
  have kb := kk ak (by simp)
  have kc := kk ac (by simp)
  have kd : ∀ x ∈ ks, x ∉ Sw' ∧ L' x = L x := fun x hx => (kk x (by simp [hx])).2
  have nds : Sw'.Nodup := by
    obtain ⟨le, lo, ds, _, nd, _⟩ := hw
    exact nd
  exact ⟨ndM.mpr (⟨q.a1, q.a2, q.a3, ka.2.1, q.k1, q.k2, kb.2.1, q.c1, kc.2.1, q.s1, nds, fun x hx => (kd x hx).1⟩ : NdM a aw ak ac ks Sw'), by rw [ka.2.2]; exact h.rt, by rw [kb.2.2]; exact h.kp, by rw [kc.2.2]; exact h.cn, h.len, fun i d e => by rw [(kd d (List.mem_of_getElem? e)).2]; exact h.es i d e, hw⟩
/-! what is read -/
theorem MAt.ix (h : MAt L a n aw ak ac ks Sw) {i : Nat} {d : Addr} (hd : ks[i]? = some d) : lIx (.ref ak) (.int i) L Q = Q (.ref d) L := by
  rw [ix_r h.kp, atI_nat (l := .ref d) (by rw [List.getElem?_map, hd]; rfl)]
  rfl
theorem MAt.spot (h : MAt L a n aw ak ac ks Sw) {i : Nat} (hi : i < n.kept.length) : ∃ d, ks[i]? = some d ∧ L d = some (.lst ((n.at i).map encN)) := by
  have hi' : i < ks.length := by rw [h.len]; exact hi
  exact ⟨ks[i], List.getElem?_eq_getElem hi', h.es i _ (List.getElem?_eq_getElem hi')⟩
theorem set_ndl {N : LHp → Prop} {v : Int} (h : L a = some (rtM n aw ak ac)) : lSetI (.ref a) (.str "needless") (.int v) L N = N (lup L a (rtM { n with ndl := v } aw ak ac)) := by
  unfold rtM at h
  rw [set_d h]
  have : pl (kvM n aw ak ac) (.inr "needless") (.int v) = kvM { n with ndl := v } aw ak ac := by rfl
  rw [this]
  exact propext ⟨fun z => z.2, fun z => ⟨szl (by show 7 < 100000; decide), z⟩⟩
end
end LK
set_option Elab.async false
set_option linter.all false
set_option maxRecDepth 100000
set_option maxHeartbeats 1000000
/-! What the law keeps of a Near: an ask. -/
namespace LK
open PySem PySem.Spec PyProof.Rows L2
theorem encN_tre {e : Ent} : (encN e).tre false 2 = true := by
  obtain ⟨k, f⟩ := e
  cases f <;> rfl
theorem ents_tre {es : List Ent} : treAll false (es.map encN) 2 = true := treAll_iff.mpr fun l hl => by
  obtain ⟨e, _, rfl⟩ := List.mem_map.mp hl
  exact encN_tre
theorem flt_some {es : List Ent} {k : Nat} {f : Option (Nat × Int)} (h : (es.map (·.1)).Nodup) (hv : vl es k = some f) : es.filter (fun e => decide (e.1 = k)) = [(k, f)] := by
  induction es with
  | nil => simp [vl_nil] at hv
  | cons e es ih =>
    obtain ⟨j, g⟩ := e
    rw [vl_cons] at hv
    rw [List.map_cons, List.nodup_cons] at h
    by_cases c : j = k
    · rw [if_pos c] at hv
      cases hv
      subst c
      have : es.filter (fun e => decide (e.1 = j)) = [] := List.filter_eq_nil_iff.mpr fun x hx z => h.1 (List.mem_map.mpr ⟨x, hx, by simpa using z⟩)
      simp [this]
    · rw [if_neg c] at hv
      simp [c]
      simpa using ih h.2 hv
theorem flt_none {es : List Ent} {k : Nat} (hv : vl es k = none) : es.filter (fun e => decide (e.1 = k)) = [] := List.filter_eq_nil_iff.mpr fun x hx z => vl_no hv x hx (by simpa using z)
theorem set_i {L : LHp} {p : Addr} {v : LV} {ls : List LV} {N : LHp → Prop} {i : Int} (k : Nat) (hi : i = k) (h : L p = some (.lst ls)) (hk : k < ls.length) : lSetI (.ref p) (.int i) v L N = N (lup L p (.lst (ls.set k v))) := by
  subst hi
  exact set_l h hk
def eqE (b : Bool) (k : Nat) (l : LV) : Option LV := match l with
  | .tup (.int j :: _) => if decide (j = (k : Int)) = b then some l else none
  | _ => none
theorem eqE_ls {b : Bool} {k : Nat} {es : List Ent} : (es.map encN).filterMap (eqE b k) = (es.filter fun e => decide (e.1 = k) == b).map encN := by
  induction es with
  | nil => rfl
  | cons e es ih =>
    rw [List.map_cons, List.filterMap_cons, List.filter_cons, ih]
    have hc : decide ((e.1 : Int) = (k : Int)) = decide (e.1 = k) := decide_eq_decide.mpr (by omega)
    simp only [encN, eqE, hc]
    by_cases c : decide (e.1 = k) = b
    · simp [c, encN]
    · have c' : (decide (e.1 = k) == b) = false := by simpa using c
      simp [c, c']
variable {G : GA} {L : LHp} {a : Addr} {n : Nr} {S : List Addr} {Q : QL} {E : XL} {m : Nat}
theorem lpop0 {L : LHp} {p : Addr} {x : LV} {ls : List LV} {Q : QL} (h : L p = some (.lst (x :: ls))) (q : Q x (lup L p (.lst ls))) : lPop0 (.ref p) [.int 0] L Q := by
  simp only [lPop0, h]
  exact q
theorem l_ask_s {i k : Int} (hm : 16 ≤ m) (ok : Nok n) (hM : IsM L a n S) (hno : ∀ x, n.chkA i k = some x → Q (.str x.name) L)
    (hok : n.chkA i k = none → ∀ L' S', IsM L' a (n.asked i.toNat k.toNat) S' → Frame S L L' → Grow S S' L → Q (.tup [encF (n.ans i.toNat k.toNat).1, .bl (n.ans i.toNat k.toNat).2]) L') : cwk G m .l_ask [.ref a, .int i, .int k] L Q E := by
  obtain ⟨m, rfl⟩ := Nat.exists_eq_add_of_le' hm
  show bodyC 3 9 (B_l_ask G (cwk G (m + 15))) _ _ _ _
  refine ⟨rfl, ?_⟩
  unfold B_l_ask
  obtain ⟨aw, ak, ac, ks, Sw, rfl, hA⟩ := hM.parts
  obtain ⟨le, lo, dsw, eW, ndw, haw, hWd⟩ := id hA.wd
  have spl := ok.spl
  have s1 : 1 ≤ sizeLine := sz (by decide)
  have s2 : 2 ≤ sizeLine := sz (by decide)
  have g1 : ∀ Q, lIx (.ref a) (.str "spots") L Q = Q (.str n.sp) L := fun Q => gM_spots hA.rt
  have g2 : ∀ Q, lIx (.ref a) (.str "world") L Q = Q (.ref aw) L := fun Q => gM_world hA.rt
  have g3 : ∀ Q, lIx (.ref aw) (.str "elders") L Q = Q (.ref le) L := fun Q => rL_el haw
  have g4 : ∀ Q, lLen [.ref le] L Q = Q (.int n.w.el.length) L := fun Q => by rw [c_len_r hWd.el, List.length_map]
  by_cases hi : 0 ≤ i ∧ i < n.sp.length
  · obtain ⟨i, rfl⟩ : ∃ j : Nat, i = j := ⟨i.toNat, by omega⟩
    have hlt : i < n.sp.length := by omega
    by_cases hk : n.w.okK k
    · obtain ⟨k, rfl, hk2⟩ := okK_nat hk
      have hok2 := hok (by simp only [Nr.chkA]; rw [if_pos hi, if_pos hk])
      simp only [Int.toNat_natCast] at hok2
      obtain ⟨en1, en2, en3⟩ := ok.entries hlt
      obtain ⟨d, hd, hdL⟩ := hA.spot (i := i) (by rw [ok.len]; exact hlt)
      have g5 : ∀ Q, lIx (.ref a) (.str "kept") L Q = Q (.ref ak) L := fun Q => gM_kept hA.rt
      have g6 : ∀ Q, lIx (.ref ak) (.int i) L Q = Q (.ref d) L := fun Q => hA.ix hd
      have g7 : ∀ R, brL (.ref d) R L = R ((n.at i).map encN) (fun L' => L' d = some (.lst ((n.at i).map encN))) L := fun R => brL_ref hdL
      simp [g1, g2, g3, g4, g5, g6, g7, hlt, hk2, spl]
      refine lc_pure (eqE true k) (by simp; exact sz (by omega)) (fun D o hD => by rw [lup_ne (lists_ne hD hdL)]; exact hdL) ?_ ?_
      · intro l hl A o K hA q
        obtain ⟨e, he, rfl⟩ := List.mem_map.mp hl
        unfold stepLc
        have hc : decide ((e.1 : Int) = (k : Int)) = decide (e.1 = k) := decide_eq_decide.mpr (by omega)
        by_cases c : e.1 = k
        · have c' : ((e.1 : Int) = k) := by omega
          simp [encN, eqE, c', lwipe] at q ⊢
          exact q
        · have c' : ¬ ((e.1 : Int) = k) := by omega
          simp [encN, eqE, c', lwipe] at q ⊢
          exact q
      rw [eqE_ls]
      simp only [beq_true]
      have c6 : ∀ (c : Int) r, L2.atI ([LV.int n.hits, LV.int n.misses, LV.int n.fgt, LV.int n.thr]) c = some r → ∀ L', L' ac = some (.lst [.int n.hits, .int n.misses, .int n.fgt, .int n.thr]) → ∀ Q, lIx (.ref ac) (.int c) L' Q = Q r L' := fun c r e L' h Q => by
        rw [ix_r h, e]
        rfl
      have gc : ∀ {L' : LHp} {n' : Nr} Q, L' a = some (rtM n' aw ak ac) → lIx (.ref a) (.str "counts") L' Q = Q (.ref ac) L' := fun Q h => gM_counts h
      -- the end: another list
      have ndA := hA.ap
      have mdS : d ∈ ks := List.mem_of_getElem? hd
      have fin : ∀ (n1 : Nr) (es0 : List Ent) (e : Ent) (σ : LSt) (k3 : Option LV) (L1 : LHp) (c4 : Bool) (sm : List LV), n1.sp = n.sp → n1.w = n.w → n1.kept.length = n.kept.length → MAt L1 a n1 aw ak ac ks Sw → Frame (a :: ak :: ac :: (ks ++ Sw)) L L1 → L1 d = some (.lst (es0.map encN)) → es0.length ≤ 6 →
          sm = (if c4 = true then [encN e] else []) → (c4 = false → e = (k, n.w.fnd k (n.lt i))) →
          (∀ L' S', IsM L' a { n1 with kept := n1.kept.set i ((es0.filter fun e => !decide (e.1 = k)) ++ [e]) } S' → Frame (a :: ak :: ac :: (ks ++ Sw)) L L' → Grow (a :: ak :: ac :: (ks ++ Sw)) S' L → Q (.tup [encF e.2, .bl c4]) L') → ∀ o6,
          (sSeq (sAsg (xCall 3 (cwk G (m + 15) .l_find) (xCons (xBin lIx (xVar 0) (xC (.str "world"))) (xCons (xVar 2) (xCons (xBin lIx (xBin lIx (xVar 0) (xC (.str "spots"))) (xVar 1)) xNil)))) (gNm 7)) (sSeq (sAsg (xIf (xTest (xBin (lEq true) (xVar 4) (xLst true xNil))) (xBin lIx (xVar 4) (xC (.int 0))) (xTup (xCons (xVar 2) (xCons (xVar 7) xNil)))) (gNm 5)) (sSeq (sAsg (xBin (lCat false) (xLc true (iLst (xVar 3)) (gNm 8) (xTest (xBin (lEq true) (xBin lIx (xVar 8) (xC (.int 0))) (xVar 2))) (xVar 8) [8]) (xLst true (xCons (xVar 5) xNil))) (gSubL (xBin lIx (xVar 0) (xC (.str "kept"))) (xVar 1))) (sRet (xTup (xCons (xBin lIx (xVar 5) (xC (.int 1))) (xCons (xBin (lEq true) (xVar 4) (xLst true xNil)) xNil)))))))
            { nx := fun x L' => retA Q LV.non L', rt := retA Q, bk := fun x x_1 => False, ct := fun x x_1 => False, ex := exA E } [some (.ref a), some (.int i), some (.int k), some (.ref d), some (.lst sm), none, o6, none, none] L1 := fun n1 es0 e σ k3 L1 c4 sm h1 h2 h2b h3 h4 h5 h6 h7 h8 h9 o6 => by
        have r1 : ∀ Q, lIx (.ref a) (.str "world") L1 Q = Q (.ref aw) L1 := fun Q => gM_world h3.rt
        have r2 : ∀ Q, lIx (.ref a) (.str "spots") L1 Q = Q (.str n.sp) L1 := fun Q => by rw [gM_spots h3.rt, h1]
        have r3 : ∀ Q, lIx (.str n.sp) (.int i) L1 Q = Q (.str (n.lt i)) L1 := fun Q => ix_s ok.spl hlt
        simp [r1, r2, r3]
        have hw1 : IsW rtL L1 aw n.w Sw := by rw [← h2]; exact h3.wd
        refine l_find_s (by omega) ok.w hk2 hw1 ?_
        have tsm : treAll false sm 2 = true := by
          rw [h7]
          split
          · exact treAll_iff.mpr fun l hl => by rw [List.mem_singleton.mp hl]; exact encN_tre
          · rfl
        have eqn : ∀ Q ng, Q (.bl (ng != !c4)) L1 → lEq ng (.lst sm) (.lst []) L1 Q := fun Q ng q => by
          refine o_eq_tree (n := 3) (m := 3) (k := !c4) (by simpa [LV.tre] using tsm) (by rfl) (by omega) (by omega) ?_ q
          rw [h7]
          cases c4 <;> simp
        try simp
        refine eqn _ _ ?_
        have rest : ∀ L1', L1' = L1 → (sSeq (sAsg (xBin (lCat false) (xLc true (iLst (xVar 3)) (gNm 8) (xTest (xBin (lEq true) (xBin lIx (xVar 8) (xC (.int 0))) (xVar 2))) (xVar 8) [8]) (xLst true (xCons (xVar 5) xNil))) (gSubL (xBin lIx (xVar 0) (xC (.str "kept"))) (xVar 1))) (sRet (xTup (xCons (xBin lIx (xVar 5) (xC (.int 1))) (xCons (xBin (lEq true) (xVar 4) (xLst true xNil)) xNil)))))
            { nx := fun x L' => retA Q LV.non L', rt := retA Q, bk := fun x x_1 => False, ct := fun x x_1 => False, ex := exA E } [some (.ref a), some (.int i), some (.int k), some (.ref d), some (.lst sm), some (encN e), o6, some (encF (n.w.fnd k (n.lt i))), none] L1' := fun L1' e1 => by
          subst e1
          have g7 : ∀ R, brL (.ref d) R L1' = R (es0.map encN) (fun L' => L' d = some (.lst (es0.map encN))) L1' := fun R => brL_ref h5
          simp [g7]
          refine lc_pure (eqE false k) (by simp; exact sz (by omega)) (fun D o hD => by rw [lup_ne (lists_ne hD h5)]; exact h5) ?_ ?_
          · intro l hl A o K hA q
            obtain ⟨e, he, rfl⟩ := List.mem_map.mp hl
            unfold stepLc
            by_cases c : e.1 = k
            · have c' : ((e.1 : Int) = k) := by omega
              simp [encN, eqE, c', lwipe] at q ⊢
              exact q
            · have c' : ¬ ((e.1 : Int) = k) := by omega
              simp [encN, eqE, c', lwipe] at q ⊢
              exact q
          rw [eqE_ls]
          simp only [beq_false]
          have lf := List.length_filter_le (fun e : Ent => !decide (e.1 = k)) es0
          simp [s1, s2]
          rw [cat_l (by simp; omega)]
          simp
          intro p hp
          have pn : p ∉ a :: ak :: ac :: (ks ++ Sw) := fun z => h3.sm p z hp
          have h3' : MAt (lup L1' p (.lst (((es0.filter fun e => !decide (e.1 = k)) ++ [e]).map encN))) a n1 aw ak ac ks Sw := h3.lup pn
          have hi2 : i < ks.length := (List.getElem?_eq_some_iff.mp hd).1
          have h3'' := h3'.newE hi2 lup_same pn
          have pL : L p = none := by
            cases q : L p with
            | none => rfl
            | some o =>
              have := h4.get pn q
              rw [hp] at this
              cases this
          have ekp : List.map encN (List.filter (fun e => !decide (e.fst = k)) es0) ++ [encN e] = ((es0.filter fun e => !decide (e.1 = k)) ++ [e]).map encN := by simp
          rw [ekp]
          rw [gM_kept h3'.rt, set_l h3'.kp (by rw [List.length_map]; exact hi2)]
          have em : (ks.map LV.ref).set i (.ref p) = (ks.set i p).map LV.ref := by rw [List.map_set]
          rw [em]
          have x1 : ∀ L' Q, lIx (encN e) (.int 1) L' Q = Q (encF e.2) L' := fun L' Q => by
            unfold encN
            rw [ix_t, atI_1]
            rfl
          rw [x1]
          refine o_eq_tree (n := 3) (m := 3) (k := !c4) (by simpa [LV.tre] using tsm) (by rfl) (by omega) (by omega) (by rw [h7]; cases c4 <;> simp) ?_
          rw [show (true != !c4) = c4 by cases c4 <;> rfl]
          try simp only [s2, true_and]
          refine retS (h9 _ _ h3''.isM ?_ ?_)
          · intro x hx1 hx2
            rw [lup_ne (fun z => hx1 (by rw [z]; simp)), lup_ne (fun z => hx2 (by rw [z]; exact pL))]
            exact h4 x hx1 hx2
          · intro x hx
            simp only [List.mem_cons, List.mem_append] at hx
            rcases hx with rfl | rfl | rfl | hx | hx
            · simp
            · simp
            · simp
            · rcases List.mem_or_eq_of_mem_set hx with z | z
              · simp [z]
              · rw [z]; exact .inr pL
            · simp [hx]
        cases c4 with
        | true =>
          have e1 : sm = [encN e] := h7
          subst e1
          simp
          have t := rest L1 rfl
          simpa using t
        | false =>
          have e1 : sm = [] := h7
          subst e1
          have e2 := h8 rfl
          simp [s2]
          have t := rest L1 rfl
          rw [e2] at t
          simpa [encN, s2] using t
      have ixc := fun (Q : QL) => gc (n' := n) Q hA.rt
      have tsm2 : treAll false (List.map encN (List.filter (fun e => decide (e.fst = k)) (n.at i))) 2 = true := ents_tre
      cases hv : vl (n.at i) k with
      | some f =>
        have eA : n.asked i k = { n with hits := n.hits + 1, kept := n.kept.set i (n.oth i k ++ [(k, f)]) } := by unfold Nr.asked; rw [hv]
        have eB : n.ans i k = (f, true) := by unfold Nr.ans; rw [hv]
        rw [eA, eB] at hok2
        rw [flt_some en2 hv]
        simp
        refine o_eq_tree (n := 3) (m := 3) (k := false) (by simpa [LV.tre, treAll] using encN_tre) (by rfl) (by omega) (by omega) (by simp) ?_
        simp [ixc]
        rw [c6 0 (.int n.hits) atI_0 L hA.cn]
        simp [ixc]
        rw [set_i 0 (by rfl) hA.cn (by simp)]
        simp
        refine o_eq_tree (n := 3) (m := 3) (k := false) (by simpa [LV.tre, treAll] using encN_tre) (by rfl) (by omega) (by omega) (by simp) ?_
        simp
        have t := fin { n with hits := n.hits + 1 } (n.at i) (k, f) [] none _ true [encN (k, f)] rfl rfl rfl hA.cnt (Frame.lup (.inl (by simp))) (by rw [lup_ne (nin' ndA.c1 mdS)]; exact hdL) en1 rfl (fun z => nomatch z) (fun L' S' h1 h2 h3 => hok2 L' S' h1 h2 h3) (some (.int 0))
        simpa using t
      | none =>
        have eB : n.ans i k = (n.w.fnd k (n.lt i), false) := by unfold Nr.ans; rw [hv]
        rw [eB] at hok2
        have eo := oth_none hv
        rw [flt_none hv]
        simp
        refine o_eq_tree (n := 3) (m := 3) (k := true) (by rfl) (by rfl) (by omega) (by omega) (by simp) ?_
        simp [ixc]
        rw [c6 1 (.int n.misses) atI_1 L hA.cn]
        simp [ixc]
        rw [set_i 1 (by rfl) hA.cn (by simp)]
        have hA1 : MAt (lup L ac (.lst [.int n.hits, .int (n.misses + 1), .int n.fgt, .int n.thr])) a { n with misses := n.misses + 1 } aw ak ac ks Sw := hA.cnt
        have hd1 : (lup L ac (.lst [.int n.hits, .int (n.misses + 1), .int n.fgt, .int n.thr])) d = some (.lst ((n.at i).map encN)) := by rw [lup_ne (nin' ndA.c1 mdS)]; exact hdL
        have fr1 : Frame (a :: ak :: ac :: (ks ++ Sw)) L (lup L ac (.lst [.int n.hits, .int (n.misses + 1), .int n.fgt, .int n.thr])) := Frame.lup (.inl (by simp))
        simp only [List.set_cons_succ, List.set_cons_zero]
        generalize lup L ac (.lst [.int n.hits, .int (n.misses + 1), .int n.fgt, .int n.thr]) = L1 at *
        try simp
        refine o_eq_tree (n := 3) (m := 3) (k := true) (by rfl) (by rfl) (by omega) (by omega) (by simp) ?_
        simp [c_len_r hd1, gM_wide hA1.rt]
        have hle := ok.kl _ (Nr.at_some ok hlt).2
        have ent : ∀ n1 : Nr, n1.at i = n.at i → True := fun _ _ => trivial
        by_cases cw : (n.at i).length = n.wide
        · have cw2 : n.wide ≤ (n.oth i k).length := by rw [eo]; omega
          have eA : n.asked i k = { n with misses := n.misses + 1, thr := n.thr + 1, kept := n.kept.set i ((n.oth i k).drop 1 ++ [(k, n.w.fnd k (n.lt i))]) } := by unfold Nr.asked; rw [hv]; simp only; rw [if_pos cw2]
          rw [eA, eo] at hok2
          have wl := ok.wlo
          obtain ⟨e0, r, hes⟩ : ∃ e0 r, n.at i = e0 :: r := by
            cases q : n.at i with
            | nil => rw [q] at cw; simp at cw; omega
            | cons e0 r => exact ⟨e0, r, rfl⟩
          rw [hes] at hd1 hv en1
          have cwi : ((n.at i).length : Int) = n.wide := by omega
          have hd1' : L1 d = some (.lst (encN e0 :: r.map encN)) := by simpa using hd1
          simp [cwi, tyL_rl hd1']
          refine lpop0 hd1' ?_
          have hA2 := hA1.putE (i := i) (d := d) (es := r) hd
          have fr2 : Frame (a :: ak :: ac :: (ks ++ Sw)) L (lup L1 d (.lst (r.map encN))) := fr1.tr (Frame.lup (.inl (by simp [mdS])))
          have hd2 : (lup L1 d (.lst (r.map encN))) d = some (.lst (r.map encN)) := lup_same
          generalize lup L1 d (.lst (r.map encN)) = L2 at *
          have cn2 : L2 ac = some (.lst [.int n.hits, .int (n.misses + 1), .int n.fgt, .int n.thr]) := hA2.cn
          rw [gM_counts hA2.rt, ix_r cn2, atI_3]
          simp
          rw [gM_counts hA2.rt, set_i 3 (by rfl) cn2 (by simp)]
          have hA3 : MAt (lup L2 ac (.lst [.int n.hits, .int (n.misses + 1), .int n.fgt, .int (n.thr + 1)])) a { n with misses := n.misses + 1, thr := n.thr + 1, kept := n.kept.set i r } aw ak ac ks Sw := hA2.cnt
          have fr3 := fr2.tr (Frame.lup (L := L2) (p := ac) (o := .lst [.int n.hits, .int (n.misses + 1), .int n.fgt, .int (n.thr + 1)]) (S := a :: ak :: ac :: (ks ++ Sw)) (.inl (by simp)))
          have hno2 : ∀ x ∈ r, x.1 ≠ k := fun x hx => vl_no hv x (by simp [hx])
          have hflt : (r.filter fun e => !decide (e.1 = k)) = r := List.filter_eq_self.mpr fun x hx => by simpa using hno2 x hx
          have t := fin { n with misses := n.misses + 1, thr := n.thr + 1, kept := n.kept.set i r } r (k, n.w.fnd k (n.lt i)) [] none _ false [] rfl rfl (by simp) hA3 fr3 (by rw [lup_ne (nin' ndA.c1 mdS)]; exact hd2) (by simp at en1; omega) rfl (fun _ => rfl) (fun L' S' h1 h2 h3 => hok2 L' S' (by
            rw [hes]
            simpa [hflt] using h1) h2 h3) (some (.int 1))
          simpa using t
        · have cw2 : ¬ n.wide ≤ (n.oth i k).length := by rw [eo]; omega
          have eA : n.asked i k = { n with misses := n.misses + 1, kept := n.kept.set i (n.oth i k ++ [(k, n.w.fnd k (n.lt i))]) } := by unfold Nr.asked; rw [hv]; simp only; rw [if_neg cw2]
          rw [eA] at hok2
          have cwi : ¬ ((n.at i).length : Int) = n.wide := by omega
          simp [cwi]
          have t := fin { n with misses := n.misses + 1 } (n.at i) (k, n.w.fnd k (n.lt i)) [] none _ false [] rfl rfl rfl hA1 fr1 hd1 en1 rfl (fun _ => rfl) (fun L' S' h1 h2 h3 => hok2 L' S' h1 h2 h3) (some (.int 1))
          simpa using t
    · have hq := hno .noKind (by simp only [Nr.chkA]; rw [if_pos hi, if_neg hk])
      have hk0 : ¬ (0 ≤ k ∧ k < n.w.el.length) := hk
      by_cases ck : 0 ≤ k
      · have ck2 : ¬ k < n.w.el.length := fun z => hk0 ⟨ck, z⟩
        simp [g1, g2, g3, g4, hlt, spl, ck, ck2]
        exact retS hq
      · simp [g1, g2, g3, g4, hlt, spl, ck]
        exact retS hq
  · have hq := hno .noSpot (by simp only [Nr.chkA]; rw [if_neg hi])
    by_cases ci : 0 ≤ i
    · have ci2 : ¬ i < n.sp.length := fun z => hi ⟨ci, z⟩
      simp [g1, spl, ci, ci2]
      exact retS hq
    · simp [g1, spl, ci]
      exact retS hq
end LK
set_option Elab.async false
set_option linter.all false
set_option maxRecDepth 100000
set_option maxHeartbeats 1000000
/-! What the law keeps of a Near: what a change forgets. -/
namespace LK
open PySem PySem.Spec PyProof.Rows L2
/-- what the law says a change forgets, rule "just" aside -/
def Nr.fgs (n : Nr) (s : Stp) (i k : Nat) : Bool := decide (n.rule = "all" ∨ ((s.tk.2 = none ∨ s.tk.2 = some (n.lt i)) ∧ (n.rule = "deed" ∨ ∃ j ∈ n.w.up k, (j : Int) = s.tk.1)))
def Stp.isAdd : Stp → Bool
  | .add _ => true
  | _ => false
def Nr.fga (n : Nr) (s : Stp) (i k : Nat) : Bool := !s.isAdd && n.fgs s i k
theorem fgs_tcs {n : Nr} {s : Stp} (h : n.rule ≠ "just") (hr : n.rule ∈ (["all", "deed", "below", "just"] : List Str)) {i k : Nat} : n.fgs s i k = n.tcs s i k := by
  unfold Nr.fgs Nr.tcs Nr.tb
  refine decide_eq_decide.mpr ?_
  simp only [List.mem_cons, List.not_mem_nil, or_false] at hr
  rcases hr with c | c | c | c
  · simp [c]
  · have c1 : ¬ (("deed" : Str) = "all") := by decide
    have c2 : ¬ (("deed" : Str) = "below") := by decide
    simp only [c, c1, c2, false_or, true_or, ne_eq, not_false_eq_true, true_and, and_true]
  · have c1 : ¬ (("below" : Str) = "all") := by decide
    have c2 : ¬ (("below" : Str) = "deed") := by decide
    simp only [c, c1, c2, false_or, ne_eq, not_true_eq_false, and_comm]
  · exact absurd c h
theorem goes_congr {n : Nr} {t1 t2 : TC} {i : Nat} {e : Ent} (h : n.rule ≠ "just" → t1 i e.1 = t2 i e.1) : n.goes t1 i e = n.goes t2 i e := by
  unfold Nr.goes
  by_cases c : n.rule = "just"
  · rw [if_pos c, if_pos c]
  · rw [if_neg c, if_neg c, h c]
theorem gone_congr {n : Nr} {t1 t2 : TC} (h : n.rule ≠ "just" → ∀ i k, t1 i k = t2 i k) (m : Nat) : n.gone t1 m = n.gone t2 m := by
  unfold Nr.gone
  have : ∀ i, n.goes t1 i = n.goes t2 i := fun i => funext fun e => goes_congr fun c => h c _ _
  simp only [this]
theorem fgot_congr {n : Nr} {t1 t2 : TC} (h : n.rule ≠ "just" → ∀ i k, t1 i k = t2 i k) : n.fgot t1 = n.fgot t2 := by
  have g : ∀ i, n.goes t1 i = n.goes t2 i := fun i => funext fun e => goes_congr fun c => h c _ _
  have l : ∀ m, n.leftK t1 m = n.leftK t2 m := fun m => by
    unfold Nr.leftK Nr.left
    simp only [g]
  have d : ∀ m, n.need t1 m = n.need t2 m := fun m => by
    induction m with
    | zero => rfl
    | succ m ih =>
      unfold Nr.need Nr.need1
      rw [ih]
      simp only [g]
  unfold Nr.fgot
  rw [l, d, gone_congr h]
/-- nothing goes -/
theorem fgot_none {n : Nr} (ok : Nok n) {tc : TC} (h : ∀ i, i < n.sp.length → ∀ e ∈ n.at i, n.goes tc i e = false) : n.fgot tc = n ∧ n.gone tc n.sp.length = [] := by
  have g : ∀ m, m ≤ n.sp.length → n.gone tc m = [] := fun m hm => by
    unfold Nr.gone
    rw [List.flatMap_eq_nil_iff]
    intro i hi
    have hi' := List.mem_range.mp hi
    rw [List.map_eq_nil_iff, List.filter_eq_nil_iff]
    intro e he z
    rw [h i (by omega) e he] at z
    cases z
  have d : ∀ m, m ≤ n.sp.length → n.need tc m = 0 := fun m hm => by
    induction m with
    | zero => rfl
    | succ m ih =>
      unfold Nr.need Nr.need1
      rw [ih (by omega)]
      have : (n.at m).filter (fun e => n.goes tc m e && n.same m e) = [] := List.filter_eq_nil_iff.mpr fun e he z => by
        rw [h m (by omega) e he] at z
        cases z
      rw [this]
      rfl
  have l : n.leftK tc n.sp.length = n.kept := by
    rw [leftK_all ok.len]
    refine List.ext_getElem? fun i => ?_
    by_cases hi : i < n.sp.length
    · rw [List.getElem?_map, List.getElem?_range hi, (Nr.at_some ok hi).1]
      simp only [Option.map_some, Nr.left]
      rw [List.filter_eq_self.mpr fun e he => by rw [h i hi e he]; rfl]
    · rw [List.getElem?_eq_none (by simp; omega), List.getElem?_eq_none (by rw [ok.len]; omega)]
  refine ⟨?_, g _ (Nat.le_refl _)⟩
  unfold Nr.fgot
  rw [l, d _ (Nat.le_refl _), g _ (Nat.le_refl _)]
  simp
variable {G : GA} {L : LHp} {a aw ak ac : Addr} {n : Nr} {S ks Sw : List Addr} {Q : QL} {E : XL} {m : Nat}
theorem nm_turn {s : Stp} {L : LHp} {Q : QL} : lIx s.enc (.int 0) L Q = Q (.str (match s with
  | .add _ => "add"
  | .put _ _ _ => "put"
  | .drop _ _ => "drop"
  | .turn _ _ => "turn"
  | .ask _ _ => "ask")) L := by
  cases s <;> simp [Stp.enc]
theorem forgets_s {s : Stp} {k i : Nat} (hm : 15 ≤ m) (ok : Nok n) (hi : i < n.sp.length) (hk : k < n.w.el.length) (hA : MAt L a n aw ak ac ks Sw) (hs : s.isAdd = false) (hq : ∀ i k, s ≠ .ask i k) (h : Q (.bl (n.fgs s i k)) L) : cwk G m .l_forgets [.ref a, s.enc, .int k, .int i] L Q E := by
  obtain ⟨m, rfl⟩ := Nat.exists_eq_add_of_le' hm
  show bodyC 4 4 (B_l_forgets G (cwk G (m + 14))) _ _ _ _
  refine ⟨rfl, ?_⟩
  unfold B_l_forgets
  have g1 : ∀ Q, lIx (.ref a) (.str "rule") L Q = Q (.str n.rule) L := fun Q => gM_rule hA.rt
  have g2 : ∀ Q, lIx (.ref a) (.str "world") L Q = Q (.ref aw) L := fun Q => gM_world hA.rt
  have g3 : ∀ Q, lIx (.ref a) (.str "spots") L Q = Q (.str n.sp) L := fun Q => gM_spots hA.rt
  have x2 : ∀ Q, lIx (.str n.sp) (.int i) L Q = Q (.str (n.lt i)) L := fun Q => ix_s ok.spl hi
  have up : ∀ (c : Int) (Q : QL), Q (.bl (decide (∃ j ∈ n.w.up k, (j : Int) = c))) L → cwk G (m + 14) .l_up [.ref aw, .int k] L (fun v L1 => lIn false (.int c) v L1 Q) (exA E) := fun c Q q => by
    refine l_up_s (by omega) ok.w hk hA.wd ?_
    refine in_lst (n := 0) (m := 0) (k := decide (∃ j ∈ n.w.up k, (j : Int) = c)) (by rfl) (treAll_iff.mpr fun l hl => ?_) (by omega) (by omega) ?_ (by simpa using q)
    · obtain ⟨x, _, rfl⟩ := List.mem_map.mp hl
      rfl
    · rw [decide_eq_true_eq, List.mem_map]
      exact ⟨fun ⟨j, hj, e⟩ => ⟨j, hj, by rw [← e]; rfl⟩, fun ⟨j, hj, e⟩ => ⟨j, hj, LV.int.inj e⟩⟩
  by_cases c1 : n.rule = "all"
  · have e : n.fgs s i k = true := decide_eq_true (.inl c1)
    rw [e] at h
    simp [g1, c1]
    exact retS h
  by_cases c2 : n.rule = "deed"
  · have e : n.fgs s i k = decide (s.tk.2 = none ∨ s.tk.2 = some (n.lt i)) := decide_eq_decide.mpr (by simp [c1, c2])
    rw [e] at h
    have c3 : ¬ (("deed" : Str) = "all") := by decide
    cases s with
    | add e => cases hs
    | ask i k => exact absurd rfl (hq i k)
    | put k' d b =>
      by_cases cd : d = n.lt i
      · simp [Stp.tk, cd] at h
        simp [g1, c1, c2, c3, Stp.enc, g3, x2, cd]
        exact retS h
      · simp [Stp.tk, cd] at h
        simp [g1, c1, c2, c3, Stp.enc, g3, x2, cd]
        exact retS h
    | drop k' d =>
      by_cases cd : d = n.lt i
      · simp [Stp.tk, cd] at h
        simp [g1, c1, c2, c3, Stp.enc, g3, x2, cd]
        exact retS h
      · simp [Stp.tk, cd] at h
        simp [g1, c1, c2, c3, Stp.enc, g3, x2, cd]
        exact retS h
    | turn k' e =>
      simp [Stp.tk] at h
      simp [g1, c1, c2, c3, Stp.enc]
      exact retS h
  · have e : n.fgs s i k = decide ((s.tk.2 = none ∨ s.tk.2 = some (n.lt i)) ∧ ∃ j ∈ n.w.up k, (j : Int) = s.tk.1) := decide_eq_decide.mpr (by simp [c1, c2])
    rw [e] at h
    cases s with
    | add e => cases hs
    | ask i k => exact absurd rfl (hq i k)
    | put k' d b =>
      by_cases cd : d = n.lt i
      · simp only [Stp.tk, cd, or_true, true_and] at h
        simp [g1, c1, c2, Stp.enc, g3, x2, cd, g2]
        exact up _ _ (retS h)
      · have cd' : ¬ ((some d : Option Str) = none ∨ some d = some (n.lt i)) := by simp [cd]
        simp only [Stp.tk, cd', false_and, decide_false] at h
        simp [g1, c1, c2, Stp.enc, g3, x2, cd]
        exact retS h
    | drop k' d =>
      by_cases cd : d = n.lt i
      · simp only [Stp.tk, cd, or_true, true_and] at h
        simp [g1, c1, c2, Stp.enc, g3, x2, cd, g2]
        exact up _ _ (retS h)
      · have cd' : ¬ ((some d : Option Str) = none ∨ some d = some (n.lt i)) := by simp [cd]
        simp only [Stp.tk, cd', false_and, decide_false] at h
        simp [g1, c1, c2, Stp.enc, g3, x2, cd]
        exact retS h
    | turn k' e =>
      simp only [Stp.tk, true_or, true_and] at h
      simp [g1, c1, c2, Stp.enc, g2]
      exact up _ _ (retS h)
/-- an entry is taken out -/
theorem remove_ent {L : LHp} {p : Addr} {pre r : List Ent} {e : Ent} {Q : QL} (hnd : ∀ x ∈ pre, x.1 ≠ e.1) (hl : pre.length + r.length ≤ 1000) (h : L p = some (.lst ((pre ++ e :: r).map encN))) (q : Q .non (lup L p (.lst ((pre ++ r).map encN)))) : lRemove (.ref p) [encN e] L Q := by
  obtain ⟨d, d1, d2, d3⟩ := tre_dat (encN e) 2 encN_tre
  obtain ⟨ds, e1, e2, e3⟩ := treAll_dat ((pre ++ e :: r).map encN) 2 ents_tre
  have at_ : ∀ (j : Nat) (x : Ent), (pre ++ e :: r)[j]? = some x → ∃ z, ds[j]? = some z ∧ (PyData.eqv z d = true ↔ x = e) := by
    have key : ∀ (es : List Ent) (ds : List PyData), datAll (es.map encN) = some ds → ∀ (j : Nat) (x : Ent), es[j]? = some x → ∃ z, ds[j]? = some z ∧ (PyData.eqv z d = true ↔ x = e) := fun es => by
      induction es with
      | nil => intro ds _ j x hx; simp at hx
      | cons y es ih =>
        intro ds hds j x hx
        obtain ⟨dy, y1, y2, y3⟩ := tre_dat (encN y) 2 encN_tre
        obtain ⟨dr, r1, _⟩ := treAll_dat (es.map encN) 2 ents_tre
        simp [datAll, y1, r1] at hds
        subst hds
        cases j with
        | zero =>
          simp at hx
          subst hx
          refine ⟨dy, rfl, ?_⟩
          rw [tre_eqv _ _ 2 2 dy d encN_tre encN_tre y1 d1]
          obtain ⟨y0, yf⟩ := y
          obtain ⟨e0, ef⟩ := e
          simp only [encN, LV.tup.injEq, List.cons.injEq, LV.int.injEq, and_true, encF_inj, Prod.mk.injEq]
          constructor <;> rintro ⟨h1, h2⟩ <;> exact ⟨by omega, h2⟩
        | succ j => exact ih dr r1 j x (by simpa using hx)
    exact key _ ds e1
  simp only [lRemove, h]
  obtain ⟨z, hz, hz2⟩ := at_ pre.length e (by rw [List.getElem?_append_right (Nat.le_refl _)]; simp)
  refine ⟨d, ds, pre.length, z, d1, e1, tre_shaped (n := 3) (by simpa [PyData.canLay0] using e2) (by simp only [PyData.depth]; omega) (by omega), tre_shaped (n := 2) d2 d3 (by omega), hz, hz2.mpr rfl, fun j z' hj hz' => ?_, ?_⟩
  · have hx : (pre ++ e :: r)[j]? = some pre[j] := by rw [List.getElem?_append_left hj, List.getElem?_eq_getElem hj]
    obtain ⟨z2, h1, h2⟩ := at_ j _ hx
    rw [hz'] at h1
    cases h1
    refine Bool.eq_false_iff.mpr fun y => ?_
    exact hnd _ (List.getElem_mem hj) (congrArg (·.1) (h2.mp y))
  · rw [List.map_append, List.map_cons, show pre.length = (pre.map encN).length by simp, List.eraseIdx_append_of_length_le (Nat.le_refl _)]
    simp
    simpa using q
end LK
set_option Elab.async false
set_option linter.all false
set_option maxRecDepth 100000
set_option maxHeartbeats 1000000
/-! What the law keeps of a Near: a change, its two loops. -/
namespace LK
open PySem PySem.Spec PyProof.Rows L2
def Nr.mid (n : Nr) (tc : TC) (i : Nat) (pre r : List Ent) : Nr := { n with kept := (n.leftK tc i).set i ((pre.filter fun e => !n.goes tc i e) ++ r), fgt := n.fgt + ((n.gone tc i).length + (pre.filter (n.goes tc i)).length : Nat), ndl := n.ndl + (n.need tc i + n.need1 tc i pre) }
theorem leftK_len {n : Nr} {tc : TC} {i : Nat} (h : i ≤ n.kept.length) : (n.leftK tc i).length = n.kept.length := by
  unfold Nr.leftK
  simp
  omega
theorem leftK_at {n : Nr} {tc : TC} {i : Nat} (h : i < n.kept.length) : (n.leftK tc i)[i]? = some (n.at i) := by
  unfold Nr.leftK
  rw [List.getElem?_append_right (by simp), List.getElem?_drop]
  simp [Nr.at, h]
theorem leftK_id {n : Nr} {tc : TC} {i : Nat} (h : i ≤ n.kept.length) : (n.leftK tc i).set i (n.at i) = n.leftK tc i := by
  by_cases c : i < n.kept.length
  · refine List.ext_getElem? fun j => ?_
    by_cases e : i = j
    · subst e
      rw [List.getElem?_set_self (by rw [leftK_len h]; exact c), leftK_at c]
    · rw [List.getElem?_set_ne e]
  · exact List.set_eq_of_length_le (by rw [leftK_len h]; omega)
theorem mid_zero {n : Nr} {tc : TC} : n.mid tc 0 [] (n.at 0) = n := by
  have e : (n.leftK tc 0).set 0 (n.at 0) = n.kept := by
    rw [leftK_id (Nat.zero_le _)]
    simp [Nr.leftK]
  unfold Nr.mid
  simp only [List.filter_nil, List.nil_append, e]
  simp [Nr.gone, Nr.need, Nr.need1]
theorem mid_next {n : Nr} {tc : TC} {i : Nat} (h : i < n.kept.length) : n.mid tc i (n.at i) [] = n.mid tc (i + 1) [] (n.at (i + 1)) := by
  have e1 : (n.leftK tc i).set i (((n.at i).filter fun e => !n.goes tc i e) ++ []) = n.leftK tc (i + 1) := by
    rw [List.append_nil]
    exact leftK_set h
  have e2 : (n.leftK tc (i + 1)).set (i + 1) (n.at (i + 1)) = n.leftK tc (i + 1) := leftK_id (by omega)
  unfold Nr.mid
  simp only [List.filter_nil, List.nil_append, e1, e2]
  have e3 : (n.gone tc (i + 1)).length = (n.gone tc i).length + ((n.at i).filter (n.goes tc i)).length := by rw [gone_succ]; simp
  have e4 : n.need tc (i + 1) = n.need tc i + n.need1 tc i (n.at i) := rfl
  have e5 : n.need1 tc (i + 1) [] = 0 := rfl
  rw [e3, e4, e5]
  simp
theorem mid_end {n : Nr} {tc : TC} (h : n.kept.length = n.sp.length) : n.mid tc n.sp.length [] (n.at n.sp.length) = n.fgot tc := by
  have e2 : (n.leftK tc n.sp.length).set n.sp.length (n.at n.sp.length) = n.leftK tc n.sp.length := leftK_id (by omega)
  have e5 : n.need1 tc n.sp.length [] = 0 := rfl
  unfold Nr.mid Nr.fgot
  simp only [List.filter_nil, List.nil_append, e2, e5]
  simp
theorem mid_en {n : Nr} {tc : TC} {i : Nat} {pre r : List Ent} (h : i < n.kept.length) : (n.mid tc i pre r).at i = (pre.filter fun e => !n.goes tc i e) ++ r := by
  unfold Nr.at Nr.mid
  simp only
  rw [List.getElem?_set_self (by rw [leftK_len (by omega)]; exact h)]
  rfl
theorem ix_dt {L : LHp} {p : Addr} {kvs : List (List Key × LV)} {i k : Nat} {Q : QL} (h : L p = some (.dtt kvs)) : lIx (.ref p) (.tup [.int i, .int k]) L Q = onS (vl kvs (kI i k)) Q L := by
  simp only [lIx, h, dAt, lKeys, lKey, onS, Option.map]
  show (match some (vl kvs (kI i k)) with
    | some (some l) => Q l L
    | _ => False) = _
  cases vl kvs (kI i k) <;> rfl
variable {G : GA} {L : LHp} {a p g aw ak ac : Addr} {n : Nr} {S ks Sw : List Addr} {Q : QL} {E : XL} {m : Nat}
theorem wide_loop {s : Stp} {o2 : Option LV} {dn db dc : LSt → LHp → Prop} {dr : QL} {de : XL} (hm : 16 ≤ m) (ok : Nok n) (hA : MAt L a n aw ak ac ks Sw) (hq : ∀ i k, s ≠ .ask i k) (hp : L p = none)
    (h : ∀ kvs o4 o5 o6, (∀ i k, i < n.sp.length → k ∈ (n.at i).map (·.1) → vl kvs (kI i k) = some (.bl (n.fga s i k))) → dn [some (.ref a), some s.enc, o2, some (.ref p), o4, o5, o6, none, none, none] (lup L p (.dtt kvs))) :
    sFor (iRng (xCB lLen (xCons (xBin lIx (xVar 0) (xC (.str "spots"))) xNil))) (gNm 4) (sFor (iLst (xBin lIx (xBin lIx (xVar 0) (xC (.str "kept"))) (xVar 4))) (gTp [5, 6]) (sAsg (xAnd (xBin (lEq true) (xBin lIx (xVar 1) (xC (.int 0))) (xC (.str "add"))) (xCall 4 (cwk G m .l_forgets) (xCons (xVar 0) (xCons (xVar 1) (xCons (xVar 5) (xCons (xVar 4) xNil)))))) (gSubL (xVar 3) (xTup (xCons (xVar 4) (xCons (xVar 5) xNil))))))
      { nx := dn, rt := dr, bk := db, ct := dc, ex := de } [some (.ref a), some s.enc, o2, some (.ref p), none, none, none, none, none, none] (lup L p (.dtt [])) := by
  have pS : p ∉ a :: ak :: ac :: (ks ++ Sw) := fun z => hA.sm p z hp
  have hA2 : ∀ o, MAt (lup L p o) a n aw ak ac ks Sw := fun o => hA.lup pS
  have spl := ok.spl
  have s8 := ok.hi
  have s2 : 2 ≤ sizeLine := sz (by decide)
  have g1 : ∀ Q o, lIx (.ref a) (.str "spots") (lup L p o) Q = Q (.str n.sp) (lup L p o) := fun Q o => gM_spots (hA2 o).rt
  have g2 : ∀ Q o, lIx (.ref a) (.str "kept") (lup L p o) Q = Q (.ref ak) (lup L p o) := fun Q o => gM_kept (hA2 o).rt
  simp [g1, spl]
  refine ⟨by omega, ?_⟩
  rw [upto_rng]
  refine forGo_ind (fun ls σ L' => ∃ i kvs o4 o5 o6, i ≤ n.sp.length ∧ ls = rng i (n.sp.length - i) ∧ σ = [some (.ref a), some s.enc, o2, some (.ref p), o4, o5, o6, none, none, none] ∧ L' = lup L p (.dtt kvs) ∧ kvs.length ≤ 6 * i ∧
    ∀ i' k, i' < i → k ∈ (n.at i').map (·.1) → vl kvs (kI i' k) = some (.bl (n.fga s i' k))) ⟨0, [], none, none, none, Nat.zero_le _, rfl, rfl, rfl, Nat.zero_le _, fun i' k z => absurd z (Nat.not_lt_zero _)⟩ ?_ ?_
  · rintro σ L' ⟨i, kvs, o4, o5, o6, hi, hls, rfl, rfl, hl, hv⟩
    have : n.sp.length - i = 0 := by
      have := congrArg List.length hls
      simpa [rng] using this.symm
    exact h kvs o4 o5 o6 fun i' k z1 z2 => hv i' k (by omega) z2
  · rintro l ls σ L' N ⟨i, kvs, o4, o5, o6, hi, hls, rfl, rfl, hl, hv⟩ hN2
    have hlt : i < n.sp.length := by
      by_cases c : i < n.sp.length
      · exact c
      · have : n.sp.length - i = 0 := by omega
        rw [this] at hls
        cases hls
    obtain ⟨j, ej⟩ : ∃ j, n.sp.length - i = j + 1 := ⟨n.sp.length - i - 1, by omega⟩
    rw [ej, rng_succ] at hls
    obtain ⟨rfl, rfl⟩ := List.cons.inj hls
    obtain ⟨en1, en2, en3⟩ := ok.entries hlt
    obtain ⟨d, hd, hdL⟩ := hA.spot (i := i) (by rw [ok.len]; exact hlt)
    have dp : d ≠ p := lists_ne hp hdL
    have g3 : ∀ Q o, lIx (.ref ak) (.int i) (lup L p o) Q = Q (.ref d) (lup L p o) := fun Q o => (hA2 o).ix hd
    have g4 : ∀ R o, brL (.ref d) R (lup L p o) = R ((n.at i).map encN) (fun L' => L' d = some (.lst ((n.at i).map encN))) (lup L p o) := fun R o => brL_ref (by rw [lup_ne dp]; exact hdL)
    simp [g2, g3, g4]
    refine forGo_ind (fun ls σ L' => ∃ pre r kvs o5 o6, pre ++ r = n.at i ∧ ls = r.map encN ∧ σ = [some (.ref a), some s.enc, o2, some (.ref p), some (.int i), o5, o6, none, none, none] ∧ L' = lup L p (.dtt kvs) ∧ kvs.length ≤ 6 * i + pre.length ∧
      (∀ i' k, i' < i → k ∈ (n.at i').map (·.1) → vl kvs (kI i' k) = some (.bl (n.fga s i' k))) ∧ ∀ k, k ∈ pre.map (·.1) → vl kvs (kI i k) = some (.bl (n.fga s i k))) ⟨[], n.at i, kvs, o5, o6, rfl, rfl, rfl, rfl, by simpa using hl, hv, by simp⟩ ?_ ?_
    · rintro σ L' ⟨pre, r, kvs, o5, o6, hpr, hls, rfl, rfl, hl, hv, hv2⟩
      have : r = [] := by simpa using hls.symm
      subst this
      have hpr' : pre = n.at i := by simpa using hpr
      refine hN2 _ _ ⟨i + 1, kvs, _, _, _, hlt, by congr 1; omega, rfl, rfl, by rw [hpr'] at hl; omega, fun i' k z1 z2 => ?_⟩ trivial
      by_cases c : i' = i
      · subst c
        exact hv2 k (by rw [hpr']; exact z2)
      · exact hv i' k (by omega) z2
    · rintro l ls σ L' N ⟨pre, r, kvs, o5, o6, hpr, hls, rfl, rfl, hl, hv, hv2⟩ hN3
      cases r with
      | nil => cases hls
      | cons e r =>
        obtain ⟨rfl, rfl⟩ := List.cons.inj hls
        have hek := en3 e (by rw [← hpr]; simp)
        have hpl : pre.length < 6 := by
          have := congrArg List.length hpr
          simp at this
          omega
        have hdt : (lup L p (.dtt kvs)) p = some (.dtt kvs) := lup_same
        have fin : N [some (.ref a), some s.enc, o2, some (.ref p), some (.int i), some (.int e.1), some (encF e.2), none, none, none] (lup L p (.dtt (pl kvs (kI i e.1) (.bl (n.fga s i e.1))))) := by
          refine hN3 _ _ ⟨pre ++ [e], r, _, _, _, by simp [hpr], rfl, rfl, rfl, ?_, fun i' k z1 z2 => ?_, fun k hk => ?_⟩ (by rw [lup_ne dp]; exact hdL)
          · have := pl_len (k := kI i e.1) (v := LV.bl (n.fga s i e.1)) (kvs := kvs)
            simp
            omega
          · rw [vl_pl, if_neg (fun z => by have := (kI_inj.mp z).1; omega)]
            exact hv i' k z1 z2
          · rw [vl_pl]
            by_cases c : e.1 = k
            · rw [if_pos (by rw [c]), c]
            · rw [if_neg (fun z => c (kI_inj.mp z).2)]
              simp only [List.map_append, List.mem_append, List.map_cons, List.map_nil, List.mem_singleton] at hk
              rcases hk with z | z
              · exact hv2 k z
              · exact absurd z.symm c
        have lk : kvs.length < sizeLine := szl (by omega)
        cases s with
        | ask i k => exact absurd rfl (hq i k)
        | add x =>
          have e0 : n.fga (.add x) i e.1 = false := rfl
          rw [e0] at fin
          simp [encN, tupOf, setAll, Stp.enc, s2] at fin ⊢
          rw [set_dt hdt, lup_lup]
          exact ⟨lk, fin⟩
        | put k d b =>
          have e0 : n.fga (.put k d b) i e.1 = n.fgs (.put k d b) i e.1 := rfl
          rw [e0] at fin
          have fs := fun Q => forgets_s (G := G) (s := .put k d b) (Q := Q) (E := de) (show 15 ≤ m by omega) ok hlt hek (hA2 (.dtt kvs)) rfl (fun _ _ => nofun)
          simp [encN, tupOf, setAll, Stp.enc] at fin fs ⊢
          refine fs _ ?_
          simp [s2]
          rw [set_dt hdt, lup_lup]
          exact ⟨lk, fin⟩
        | drop k d =>
          have e0 : n.fga (.drop k d) i e.1 = n.fgs (.drop k d) i e.1 := rfl
          rw [e0] at fin
          have fs := fun Q => forgets_s (G := G) (s := .drop k d) (Q := Q) (E := de) (show 15 ≤ m by omega) ok hlt hek (hA2 (.dtt kvs)) rfl (fun _ _ => nofun)
          simp [encN, tupOf, setAll, Stp.enc] at fin fs ⊢
          refine fs _ ?_
          simp [s2]
          rw [set_dt hdt, lup_lup]
          exact ⟨lk, fin⟩
        | turn k x =>
          have e0 : n.fga (.turn k x) i e.1 = n.fgs (.turn k x) i e.1 := rfl
          rw [e0] at fin
          have fs := fun Q => forgets_s (G := G) (s := .turn k x) (Q := Q) (E := de) (show 15 ≤ m by omega) ok hlt hek (hA2 (.dtt kvs)) rfl (fun _ _ => nofun)
          simp [encN, tupOf, setAll, Stp.enc] at fin fs ⊢
          refine fs _ ?_
          simp [s2]
          rw [set_dt hdt, lup_lup]
          exact ⟨lk, fin⟩
end LK
set_option Elab.async false
set_option linter.all false
set_option maxRecDepth 100000
set_option maxHeartbeats 1000000
/-! What the law keeps of a Near: what goes by a change. -/
namespace LK
open PySem PySem.Spec PyProof.Rows L2
variable {G : GA} {L : LHp} {a p g aw ak ac : Addr} {n : Nr} {S ks Sw : List Addr} {Q : QL} {E : XL} {m : Nat}
theorem need1_snoc {n : Nr} {tc : TC} {i : Nat} {pre : List Ent} {e : Ent} : n.need1 tc i (pre ++ [e]) = n.need1 tc i pre + (if n.goes tc i e && n.same i e then 1 else 0) := by
  unfold Nr.need1
  rw [List.filter_append, List.length_append]
  cases h : n.goes tc i e && n.same i e <;> simp [h]
theorem mid_goes {n : Nr} {tc : TC} {i : Nat} {pre r : List Ent} {e : Ent} (h : n.goes tc i e = true) : n.mid tc i (pre ++ [e]) r = { n.mid tc i pre (e :: r) with kept := (n.mid tc i pre (e :: r)).kept.set i ((pre.filter fun e => !n.goes tc i e) ++ r), fgt := (n.mid tc i pre (e :: r)).fgt + 1, ndl := (n.mid tc i pre (e :: r)).ndl + (if n.same i e then 1 else 0) } := by
  unfold Nr.mid
  simp only [List.set_set, List.filter_append, need1_snoc, h, Bool.true_and]
  simp [h]
  omega
theorem mid_stays {n : Nr} {tc : TC} {i : Nat} {pre r : List Ent} {e : Ent} (h : n.goes tc i e = false) : n.mid tc i (pre ++ [e]) r = n.mid tc i pre (e :: r) := by
  unfold Nr.mid
  simp only [List.filter_append, need1_snoc, h, Bool.false_and]
  simp [h]
theorem gone_loop {s : LV} {o2 o7 : Option LV} {kvs : List (List Key × LV)} {tc : TC} {dn db dc : LSt → LHp → Prop} {dr : QL} {de : XL} (hm : 16 ≤ m) (ok : Nok n) (hA : MAt L a n aw ak ac ks Sw) (hp : L p = some (.dtt kvs)) (pS : p ∉ a :: ak :: ac :: (ks ++ Sw)) (hg : L g = none)
    (hT : ∀ i k, i < n.sp.length → k ∈ (n.at i).map (·.1) → vl kvs (kI i k) = some (.bl (tc i k)))
    (h : ∀ L' o4 o5 o6 o9, MAt L' a (n.fgot tc) aw ak ac ks Sw → Frame (a :: ak :: ac :: (ks ++ Sw)) L L' → L' g = some (.lst ((n.gone tc n.sp.length).map ipL)) → dn [some (.ref a), some s, o2, some (.ref p), o4, o5, o6, o7, some (.ref g), o9] L') {o4 o5 o6 o9 : Option LV} :
    sFor (iRng (xCB lLen (xCons (xBin lIx (xVar 0) (xC (.str "spots"))) xNil))) (gNm 4) (sFor (iLst (xCB (lList true) (xCons (xBin lIx (xBin lIx (xVar 0) (xC (.str "kept"))) (xVar 4)) xNil))) (gTp [5, 6]) (sSeq (sAsg (xBin (lEq false) (xCall 3 (cwk G m .l_find) (xCons (xBin lIx (xVar 0) (xC (.str "world"))) (xCons (xVar 5) (xCons (xBin lIx (xBin lIx (xVar 0) (xC (.str "spots"))) (xVar 4)) xNil)))) (xVar 6)) (gNm 9)) (sIf (xIfT (xTest (xBin (lEq true) (xBin lIx (xVar 0) (xC (.str "rule"))) (xC (.str "just")))) (xTest (xBin lIx (xVar 3) (xTup (xCons (xVar 4) (xCons (xVar 5) xNil))))) (xNotT (xTest (xVar 9)))) (sSeq (sDrop (xMt "list" lAppend (xVar 8) (xCons (xTup (xCons (xVar 4) (xCons (xVar 5) xNil))) xNil))) (sSeq (sDrop (xMt "list" lRemove (xBin lIx (xBin lIx (xVar 0) (xC (.str "kept"))) (xVar 4)) (xCons (xTup (xCons (xVar 5) (xCons (xVar 6) xNil))) xNil))) (sSeq (sAsg (xBin lAdd (xBin lIx (xBin lIx (xVar 0) (xC (.str "counts"))) (xC (.int 2))) (xC (.int 1))) (gSubL (xBin lIx (xVar 0) (xC (.str "counts"))) (xC (.int 2)))) (sAsg (xBin lAdd (xBin lIx (xVar 0) (xC (.str "needless"))) (xCB lInt (xCons (xVar 9) xNil))) (gSubL (xVar 0) (xC (.str "needless"))))))) sNext)))
      { nx := dn, rt := dr, bk := db, ct := dc, ex := de } [some (.ref a), some s, o2, some (.ref p), o4, o5, o6, o7, some (.ref g), o9] (lup L g (.lst [])) := by
  have gS : g ∉ a :: ak :: ac :: (ks ++ Sw) := fun z => hA.sm g z hg
  have pg : p ≠ g := lists_ne hg hp
  have hA1 : MAt (lup L g (.lst [])) a n aw ak ac ks Sw := hA.lup gS
  have spl := ok.spl
  have s8 := ok.hi
  have s2 : 2 ≤ sizeLine := sz (by decide)
  have kl := ok.len
  simp [gM_spots hA1.rt, spl]
  refine ⟨by omega, ?_⟩
  rw [upto_rng]
  refine forGo_ind (fun ls σ L' => ∃ i o4 o5 o6 o9, i ≤ n.sp.length ∧ ls = rng i (n.sp.length - i) ∧ σ = [some (.ref a), some s, o2, some (.ref p), o4, o5, o6, o7, some (.ref g), o9] ∧ MAt L' a (n.mid tc i [] (n.at i)) aw ak ac ks Sw ∧ Frame (a :: ak :: ac :: (ks ++ Sw)) L L' ∧
    L' p = some (.dtt kvs) ∧ L' g = some (.lst ((n.gone tc i).map ipL)) ∧ (n.gone tc i).length ≤ 6 * i) ⟨0, o4, o5, o6, o9, Nat.zero_le _, rfl, rfl, by rw [mid_zero]; exact hA1, Frame.lup (.inr hg), by rw [lup_ne pg]; exact hp, by rw [lup_same]; rfl, Nat.zero_le _⟩ ?_ ?_
  · rintro σ L' ⟨i, o4, o5, o6, o9, hi, hls, rfl, hA3, fr, hpL, hG, hl⟩
    have e0 : n.sp.length - i = 0 := by
      have := congrArg List.length hls
      simpa [rng] using this.symm
    have e1 : i = n.sp.length := by omega
    subst e1
    rw [mid_end kl] at hA3
    exact h L' _ _ _ _ hA3 fr hG
  · rintro l ls σ L' N ⟨i, o4, o5, o6, o9, hi, hls, rfl, hA3, fr, hpL, hG, hl⟩ hN2
    have hlt : i < n.sp.length := by
      by_cases c : i < n.sp.length
      · exact c
      · have : n.sp.length - i = 0 := by omega
        rw [this] at hls
        cases hls
    obtain ⟨j, ej⟩ : ∃ j, n.sp.length - i = j + 1 := ⟨n.sp.length - i - 1, by omega⟩
    rw [ej, rng_succ] at hls
    obtain ⟨rfl, rfl⟩ := List.cons.inj hls
    obtain ⟨en1, en2, en3⟩ := ok.entries hlt
    have hlk : i < n.kept.length := by omega
    have hik : i < ks.length := by rw [hA.len]; exact hlk
    have hd : ks[i]? = some ks[i] := List.getElem?_eq_getElem hik
    generalize ks[i] = d at hd
    have mdS : d ∈ ks := List.mem_of_getElem? hd
    have dAt := hA3.es i d hd
    rw [mid_en hlk] at dAt
    simp only [List.filter_nil, List.nil_append] at dAt
    simp [gM_kept hA3.rt, hA3.ix hd]
    rw [c_list_r dAt]
    simp
    refine forGo_ind (fun ls σ L' => ∃ pre r o5 o6 o9, pre ++ r = n.at i ∧ ls = r.map encN ∧ σ = [some (.ref a), some s, o2, some (.ref p), some (.int i), o5, o6, o7, some (.ref g), o9] ∧ MAt L' a (n.mid tc i pre r) aw ak ac ks Sw ∧ Frame (a :: ak :: ac :: (ks ++ Sw)) L L' ∧
      L' p = some (.dtt kvs) ∧ L' g = some (.lst ((n.gone tc i ++ (pre.filter (n.goes tc i)).map (pN i)).map ipL))) ⟨[], n.at i, o5, o6, o9, rfl, rfl, rfl, hA3, fr, hpL, by simpa using hG⟩ ?_ ?_
    · rintro σ L' ⟨pre, r, o5, o6, o9, hpr, hls, rfl, hA4, fr, hpL, hG⟩
      have : r = [] := by simpa using hls.symm
      subst this
      have hpr' : pre = n.at i := by simpa using hpr
      subst hpr'
      refine hN2 _ _ ⟨i + 1, _, _, _, _, hlt, by congr 1; omega, rfl, by rw [← mid_next hlk]; exact hA4, fr, hpL, by rw [hG, gone_succ], ?_⟩ trivial
      rw [gone_succ, List.length_append, List.length_map]
      have := List.length_filter_le (n.goes tc i) (n.at i)
      omega
    · rintro l ls σ L' N ⟨pre, r, o5, o6, o9, hpr, hls, rfl, hA4, fr, hpL, hG⟩ hN3
      cases r with
      | nil => cases hls
      | cons e r =>
        obtain ⟨rfl, rfl⟩ := List.cons.inj hls
        have hek := en3 e (by rw [← hpr]; simp)
        have hpl : pre.length + r.length < 6 := by
          have := congrArg List.length hpr
          simp at this
          omega
        have epre : ∀ x ∈ pre, x.1 ≠ e.1 := fun x hx z => by
          rw [← hpr, List.map_append, List.map_cons, List.nodup_append] at en2
          exact en2.2.2 x.1 (List.mem_map.mpr ⟨x, hx, rfl⟩) e.1 (by simp) z
        have gw : ∀ Q, lIx (.ref a) (.str "world") L' Q = Q (.ref aw) L' := fun Q => gM_world (n := n.mid tc i pre (e :: r)) hA4.rt
        have gsp : ∀ Q, lIx (.ref a) (.str "spots") L' Q = Q (.str n.sp) L' := fun Q => gM_spots (n := n.mid tc i pre (e :: r)) hA4.rt
        have grl : ∀ Q, lIx (.ref a) (.str "rule") L' Q = Q (.str n.rule) L' := fun Q => gM_rule (n := n.mid tc i pre (e :: r)) hA4.rt
        have x2 : ∀ Q, lIx (.str n.sp) (.int i) L' Q = Q (.str (n.lt i)) L' := fun Q => ix_s ok.spl hlt
        simp [encN, tupOf, setAll, gw, gsp, x2]
        refine l_find_s (by omega) ok.w hek hA4.wd ?_
        refine o_eq_tree (n := 1) (m := 1) (k := n.same i e) encF_tre encF_tre (by omega) (by omega) ?_ ?_
        · unfold Nr.same
          rw [decide_eq_true_eq, encF_inj]
        have cond : ∀ (t u : LTS) D, brS (n.goes tc i e) t u D [some (.ref a), some s, o2, some (.ref p), some (.int i), some (.int e.1), some (encF e.2), o7, some (.ref g), some (.bl (n.same i e))] L' →
            (xIfT (xTest (xBin (lEq true) (xBin lIx (xVar 0) (xC (.str "rule"))) (xC (.str "just")))) (xTest (xBin lIx (xVar 3) (xTup (xCons (xVar 4) (xCons (xVar 5) xNil))))) (xNotT (xTest (xVar 9)))) [some (.ref a), some s, o2, some (.ref p), some (.int i), some (.int e.1), some (encF e.2), o7, some (.ref g), some (.bl (n.same i e))] L' (fun z L1 => brS z t u D [some (.ref a), some s, o2, some (.ref p), some (.int i), some (.int e.1), some (encF e.2), o7, some (.ref g), some (.bl (n.same i e))] L1) D.ex := fun t u D q => by
          unfold Nr.goes at q
          by_cases c : n.rule = "just"
          · rw [if_pos c] at q
            simp [grl, c]
            exact q
          · rw [if_neg c] at q
            have hin := hT i e.1 hlt (List.mem_map.mpr ⟨e, by rw [← hpr]; simp, rfl⟩)
            simp [grl, c, ix_dt hpL, hin, s2]
            exact q
        simp only [bne_ff, w_if]
        refine cond _ _ _ ?_
        cases hgo : n.goes tc i e with
        | false =>
          simp
          refine hN3 _ _ ⟨pre ++ [e], r, _, _, _, by simp [hpr], rfl, rfl, by rw [mid_stays hgo]; exact hA4, fr, hpL, ?_⟩ trivial
          rw [hG]
          simp [hgo]
        | true =>
          have lenG : ((n.gone tc i ++ (pre.filter (n.goes tc i)).map (pN i)).map ipL).length < sizeLine := szl (by
            have := List.length_filter_le (n.goes tc i) pre
            simp only [List.length_map, List.length_append]
            omega)
          have gS' : g ∉ a :: ak :: ac :: (ks ++ Sw) := gS
          obtain ⟨L5, hL5⟩ : ∃ L5, L5 = lup L' g (.lst ((n.gone tc i ++ (pre.filter (n.goes tc i)).map (pN i)).map ipL ++ [.tup [.int i, .int e.1]])) := ⟨_, rfl⟩
          have apG : ∀ Q, lAppend (.ref g) [.tup [.int i, .int e.1]] L' Q = Q .non L5 := fun Q => by
            rw [mt_app hG, hL5]
            exact propext ⟨fun z => z.2, fun z => ⟨lenG, z⟩⟩
          simp [tyL_rl hG, apG, s2]
          have hA5 : MAt L5 a (n.mid tc i pre (e :: r)) aw ak ac ks Sw := by rw [hL5]; exact hA4.lup gS
          have fr5 : Frame (a :: ak :: ac :: (ks ++ Sw)) L L5 := by
            rw [hL5]
            intro x h1 h2
            rw [lup_ne (fun z => h2 (by rw [z]; exact hg))]
            exact fr x h1 h2
          have hp5 : L5 p = some (.dtt kvs) := by rw [hL5, lup_ne pg]; exact hpL
          have hG5 : L5 g = some (.lst ((n.gone tc i ++ ((pre ++ [e]).filter (n.goes tc i)).map (pN i)).map ipL)) := by
            rw [hL5, lup_same]
            simp [hgo]
            rfl
          have hd5 := hA5.es i d hd
          rw [mid_en hlk] at hd5
          rw [gM_kept hA5.rt, hA5.ix hd, tyL_rl hd5]
          refine ⟨trivial, remove_ent (e := e) (fun x hx => epre x (List.mem_filter.mp hx).1) (by have := List.length_filter_le (fun e => !n.goes tc i e) pre; omega) hd5 ?_⟩
          have hA6 := hA5.putE (es := (pre.filter fun e => !n.goes tc i e) ++ r) hd
          have mS : ∀ x, x ∈ a :: ak :: ac :: (ks ++ Sw) → x ≠ p ∧ x ≠ g := fun x hx => ⟨fun z => pS (z ▸ hx), fun z => gS (z ▸ hx)⟩
          have step : ∀ {L6 : LHp} {x : Addr} {o : LO}, x ∈ a :: ak :: ac :: (ks ++ Sw) → Frame (a :: ak :: ac :: (ks ++ Sw)) L L6 ∧ L6 p = some (.dtt kvs) ∧ L6 g = some (.lst ((n.gone tc i ++ ((pre ++ [e]).filter (n.goes tc i)).map (pN i)).map ipL)) →
              Frame (a :: ak :: ac :: (ks ++ Sw)) L (lup L6 x o) ∧ (lup L6 x o) p = some (.dtt kvs) ∧ (lup L6 x o) g = some (.lst ((n.gone tc i ++ ((pre ++ [e]).filter (n.goes tc i)).map (pN i)).map ipL)) := fun hx ⟨q1, q2, q3⟩ =>
            ⟨q1.tr (Frame.lup (.inl hx)), by rw [lup_ne (Ne.symm (mS _ hx).1)]; exact q2, by rw [lup_ne (Ne.symm (mS _ hx).2)]; exact q3⟩
          have st6 := step (o := .lst (((pre.filter fun e => !n.goes tc i e) ++ r).map encN)) (show d ∈ a :: ak :: ac :: (ks ++ Sw) by simp [mdS]) ⟨fr5, hp5, hG5⟩
          generalize lup L5 d (.lst (((pre.filter fun e => !n.goes tc i e) ++ r).map encN)) = L6 at *
          have cn6 := hA6.cn
          rw [gM_counts hA6.rt, ix_r cn6, atI_2]
          simp only [onS_some, o_add_i]
          rw [gM_counts hA6.rt, set_i 2 (by rfl) cn6 (by simp)]
          simp only [List.set_cons_zero, List.set_cons_succ]
          have hA7 := hA6.cnt (x1 := (n.mid tc i pre (e :: r)).hits) (x2 := (n.mid tc i pre (e :: r)).misses) (x3 := (n.mid tc i pre (e :: r)).fgt + 1) (x4 := (n.mid tc i pre (e :: r)).thr)
          have st7 := step (o := .lst [.int (n.mid tc i pre (e :: r)).hits, .int (n.mid tc i pre (e :: r)).misses, .int ((n.mid tc i pre (e :: r)).fgt + 1), .int (n.mid tc i pre (e :: r)).thr]) (show ac ∈ a :: ak :: ac :: (ks ++ Sw) by simp) st6
          generalize lup L6 ac (.lst [.int (n.mid tc i pre (e :: r)).hits, .int (n.mid tc i pre (e :: r)).misses, .int ((n.mid tc i pre (e :: r)).fgt + 1), .int (n.mid tc i pre (e :: r)).thr]) = L7 at *
          rw [gM_ndl hA7.rt]
          simp only [o_add_i]
          rw [set_ndl hA7.rt]
          have hA8 := hA7.ndl (v := (n.mid tc i pre (e :: r)).ndl + (if n.same i e = true then 1 else 0))
          have st8 := step (o := rtM { n.mid tc i pre (e :: r) with kept := (n.mid tc i pre (e :: r)).kept.set i ((pre.filter fun e => !n.goes tc i e) ++ r), fgt := (n.mid tc i pre (e :: r)).fgt + 1, ndl := (n.mid tc i pre (e :: r)).ndl + (if n.same i e = true then 1 else 0) } aw ak ac) (show a ∈ a :: ak :: ac :: (ks ++ Sw) by simp) st7
          refine hN3 _ _ ⟨pre ++ [e], r, _, _, _, by simp [hpr], rfl, rfl, ?_, st8.1, st8.2.1, st8.2.2⟩ trivial
          rw [mid_goes hgo]
          exact hA8
end LK
set_option Elab.async false
set_option linter.all false
set_option maxRecDepth 100000
set_option maxHeartbeats 1000000
/-! What the law keeps of a Near: a step. -/
namespace LK
open PySem PySem.Spec PyProof.Rows L2
def Nr.toldA (n : Nr) (s : Stp) : List (Int × Int) := if s.isAdd then [] else n.told s
def Nr.step (n : Nr) (s : Stp) : Nr := match s with
  | .ask i k => if n.chkA i k = none then n.asked i.toNat k.toNat else n
  | s => if n.w.chk s = none then n.after s else n
def Nr.tells (n : Nr) (s : Stp) : LV := match s with
  | .ask i k => match n.chkA i k with
    | some x => .str x.name
    | none => .tup [encF (n.ans i.toNat k.toNat).1, .bl (n.ans i.toNat k.toNat).2]
  | s => match n.w.chk s with
    | some x => .str x.name
    | none => .tup [n.w.tells s, .lst ((n.toldA s).map ipL)]
theorem step_c {n : Nr} {s : Stp} (hq : ∀ i k, s ≠ .ask i k) (hc : n.w.chk s = none) : n.step s = n.after s ∧ n.tells s = .tup [n.w.tells s, .lst ((n.toldA s).map ipL)] := by
  cases s with
  | ask i k => exact absurd rfl (hq i k)
  | _ => simp [Nr.step, Nr.tells, hc]
theorem step_x {n : Nr} {s : Stp} (hq : ∀ i k, s ≠ .ask i k) {x : Er} (hc : n.w.chk s = some x) : n.step s = n ∧ n.tells s = .str x.name := by
  cases s with
  | ask i k => exact absurd rfl (hq i k)
  | _ => simp [Nr.step, Nr.tells, hc]
theorem chkA_ok {n : Nr} {i k : Int} (h : n.chkA i k = none) : (0 ≤ i ∧ i < n.sp.length) ∧ n.w.okK k := by
  unfold Nr.chkA at h
  split at h
  · split at h
    · exact ⟨by assumption, by assumption⟩
    · cases h
  · cases h
theorem Nok.step {n : Nr} (ok : Nok n) (s : Stp) : Nok (n.step s) := by
  by_cases hq : ∃ i k, s = .ask i k
  · obtain ⟨i, k, rfl⟩ := hq
    unfold Nr.step
    simp only
    split
    · rename_i h
      obtain ⟨h1, h2⟩ := chkA_ok h
      have h2' : 0 ≤ k ∧ k < n.w.el.length := h2
      exact ok.asked (by omega) (by omega)
    · exact ok
  · have hq' : ∀ i k, s ≠ .ask i k := fun i k e => hq ⟨i, k, e⟩
    cases hc : n.w.chk s with
    | none => rw [(step_c hq' hc).1]; exact ok.after hq' hc
    | some x => rw [(step_x hq' hc).1]; exact ok
theorem Tru.step {n : Nr} (ok : Nok n) (tr : Tru n n.w) (s : Stp) : Tru (n.step s) (n.step s).w := by
  by_cases hq : ∃ i k, s = .ask i k
  · obtain ⟨i, k, rfl⟩ := hq
    unfold Nr.step
    simp only
    split
    · rename_i h
      obtain ⟨h1, h2⟩ := chkA_ok h
      obtain ⟨t1, t2, t3, t4⟩ := tr.asked ok (i := i.toNat) (k := k.toNat) (by omega)
      rw [t3]
      exact t1
    · exact tr
  · have hq' : ∀ i k, s ≠ .ask i k := fun i k e => hq ⟨i, k, e⟩
    cases hc : n.w.chk s with
    | none => rw [(step_c hq' hc).1, after_w]; exact Tru.after ok tr hq' hc
    | some x => rw [(step_x hq' hc).1]; exact tr
theorem step_sp {n : Nr} (s : Stp) : (n.step s).sp = n.sp := by
  by_cases hq : ∃ i k, s = .ask i k
  · obtain ⟨i, k, rfl⟩ := hq
    unfold Nr.step
    simp only
    split
    · unfold Nr.asked
      split
      · rfl
      · split <;> rfl
    · rfl
  · have hq' : ∀ i k, s ≠ .ask i k := fun i k e => hq ⟨i, k, e⟩
    cases hc : n.w.chk s with
    | none => rw [(step_c hq' hc).1, after_sp]
    | some x => rw [(step_x hq' hc).1]
theorem tru_goes {n : Nr} (ok : Nok n) (tr : Tru n n.w) {e : Option Int} (tc : TC) (h : ∀ i k, tc i k = false) : ∀ i, i < (n.wd (n.w.app (.add e))).sp.length → ∀ x ∈ (n.wd (n.w.app (.add e))).at i, (n.wd (n.w.app (.add e))).goes tc i x = false := fun i hi x hx => by
  have hi' : i < n.sp.length := hi
  have hx' : x ∈ n.at i := hx
  unfold Nr.goes
  split
  · have e1 := tr i hi' x hx'
    have e2 := fnd_add ok.w (e := e) ((ok.entries hi').2.2 x hx') (n.lt i)
    have : (n.wd (n.w.app (.add e))).same i x = true := by
      unfold Nr.same
      rw [decide_eq_true_eq]
      show (n.w.app (.add e)).fnd x.1 (n.lt i) = x.2
      rw [e2, e1]
    rw [this]
    rfl
  · exact h _ _
variable {G : GA} {L : LHp} {a : Addr} {n : Nr} {S : List Addr} {Q : QL} {E : XL} {m : Nat}
def Stp.nam : Stp → Str
  | .add _ => "add"
  | .put _ _ _ => "put"
  | .drop _ _ => "drop"
  | .turn _ _ => "turn"
  | .ask _ _ => "ask"
theorem enc0 {s : Stp} : lIx s.enc (.int 0) L Q = Q (.str s.nam) L := by
  cases s <;> simp [Stp.enc, Stp.nam]
theorem namAsk {s : Stp} (h : ∀ i k, s ≠ .ask i k) : s.nam ≠ "ask" := by
  cases s with
  | ask i k => exact absurd rfl (h i k)
  | _ => simp [Stp.nam]
theorem wordNil {w : Wd} {s : Stp} : w.word s = "" ↔ w.chk s = none := by
  unfold Wd.word
  cases w.chk s with
  | none => simp
  | some x => cases x <;> simp [Er.name]
theorem do_s {s : Stp} (hm : 17 ≤ m) (ok : Nok n) (tr : Tru n n.w) (hM : IsM L a n S) (h : ∀ L' S', IsM L' a (n.step s) S' → Frame S L L' → Grow S S' L → Q (n.tells s) L') : cwk G m .l_do [.ref a, s.enc] L Q E := by
  obtain ⟨m, rfl⟩ := Nat.exists_eq_add_of_le' hm
  show bodyC 2 10 (B_l_do G (cwk G (m + 16))) _ _ _ _
  refine ⟨rfl, ?_⟩
  unfold B_l_do
  by_cases hq : ∃ i k, s = .ask i k
  · obtain ⟨i, k, rfl⟩ := hq
    simp [Stp.enc]
    refine l_ask_s (by omega) ok hM (fun x hx => ?_) fun hx L' S' h1 h2 h3 => ?_
    · refine retS ?_
      have := h L S (by simpa [Nr.step, hx] using hM) Frame.refl Grow.refl
      simpa [Nr.tells, hx] using this
    · refine retS ?_
      have := h L' S' (by simpa [Nr.step, hx] using h1) h2 h3
      simpa [Nr.tells, hx] using this
  have hq' : ∀ i k, s ≠ .ask i k := fun i k e => hq ⟨i, k, e⟩
  obtain ⟨aw, ak, ac, ks, Sw, rfl, hA⟩ := hM.parts
  have gw : ∀ Q, lIx (.ref a) (.str "world") L Q = Q (.ref aw) L := fun Q => gM_world hA.rt
  have nm := namAsk hq'
  have nm' : decide (s.nam = (Str.ofString "ask")) = false := decide_eq_false nm
  simp only [w_seq, w_if, w_asg, w_ret, w_test, w_bin, w_var, w_c, startL_def, List.length_cons, List.length_nil, List.map_cons, List.map_nil, List.replicate, List.cons_append, List.nil_append, List.getElem?_cons_zero, List.getElem?_cons_succ, enc0, o_eq_s, nm', brB_bl, brS_f, w_next, bne_ff, w_call, w_cons, w_nil, gw, w_nm, List.set_cons_zero, List.set_cons_succ]
  refine ⟨trivial, word_s (by omega) hq' ok.w hA.wd ?_⟩
  have hwi := wordNil (w := n.w) (s := s)
  have hwx : ∀ x, n.w.chk s = some x → n.w.word s = x.name := fun x hx => by simp [Wd.word, hx]
  generalize n.w.word s = wd at hwi hwx ⊢
  cases hc : n.w.chk s with
  | some x =>
    obtain ⟨e1, e2⟩ := step_x hq' hc
    have hwd : ¬ wd = "" := fun z => by rw [hwi.mp z] at hc; cases hc
    have ex := hwx x hc
    rw [e1, e2] at h
    simp [hwd]
    rw [ex]
    exact retS (h _ _ hM Frame.refl Grow.refl)
  | none =>
    obtain ⟨e1, e2⟩ := step_c hq' hc
    have hwd := hwi.mpr hc
    subst hwd
    rw [e1, e2] at h
    simp only [o_eq_s, decide_true, bne_self_eq_false, brB_bl, brS_f, w_next, w_dt, w_nm, List.set_cons_zero, List.set_cons_succ]
    intro p hp
    refine wide_loop (by omega) ok hA hq' hp fun kvs o4 o5 o6 hT => ?_
    have pS : p ∉ a :: ak :: ac :: (ks ++ Sw) := fun z => hA.sm p z hp
    have hA1 : MAt (lup L p (.dtt kvs)) a n aw ak ac ks Sw := hA.lup pS
    have hp1 : (lup L p (.dtt kvs)) p = some (.dtt kvs) := lup_same
    have fr1 : Frame [] L (lup L p (.dtt kvs)) := Frame.lup (.inr hp)
    generalize lup L p (.dtt kvs) = L1 at *
    have gw1 : ∀ Q, lIx (.ref a) (.str "world") L1 Q = Q (.ref aw) L1 := fun Q => gM_world hA1.rt
    simp only [w_seq, w_asg, w_call, w_cons, w_nil, w_bin, w_var, w_c, List.length_cons, List.length_nil, List.getElem?_cons_zero, List.getElem?_cons_succ, gw1, w_nm, List.set_cons_zero, List.set_cons_succ, w_lst, w_newF]
    refine ⟨trivial, change_s (by omega) hq' hc ok.w hA1.wd fun L2 Sw' g1 g2 g3 _ => ⟨Nat.zero_le _, fun g hg => ?_⟩⟩
    have hA2 := hA1.wrld g1 g2 g3
    have pw : p ∉ Sw := fun z => pS (by simp [z])
    have hp2 : L2 p = some (.dtt kvs) := g2.get pw hp1
    have pw' : p ∉ Sw' := fun z => (g3 p z).elim pw fun q => by rw [hp1] at q; cases q
    have pS2 : p ∉ a :: ak :: ac :: (ks ++ Sw') := by
      simp only [List.mem_cons, List.mem_append, not_or] at pS ⊢
      exact ⟨pS.1, pS.2.1, pS.2.2.1, pS.2.2.2.1, pw'⟩
    have ok2 : Nok (n.wd (n.w.app s)) := by
      have hlen : n.w.el.length ≤ (n.w.app s).el.length := by
        cases s with
        | add e => simp [Wd.app]
        | put k d b => exact Nat.le_of_eq (app_len (s := .put k d b) (fun e => nofun)).symm
        | drop k d => exact Nat.le_of_eq (app_len (s := .drop k d) (fun e => nofun)).symm
        | turn k x => exact Nat.le_of_eq (app_len (s := .turn k x) (fun e => nofun)).symm
        | ask i k => exact absurd rfl (hq' i k)
      exact ok.wd (ok.w.app hc) hlen
    refine gone_loop (s := s.enc) (o7 := some (n.w.tells s)) (tc := n.fga s) (by omega) ok2 hA2 hp2 pS2 hg hT fun L3 o4 o5 o6 o9 hA3 fr3 hg3 => ?_
    -- the end
    have eN : (n.wd (n.w.app s)).fgot (n.fga s) = n.after s ∧ srt ((n.wd (n.w.app s)).gone (n.fga s) n.sp.length) = n.toldA s := by
      by_cases ca : s.isAdd = true
      · cases s with
        | add e =>
          obtain ⟨f1, f2⟩ := fgot_none ok2 (tc := n.fga (.add e)) (tru_goes ok tr _ fun i k => rfl)
          refine ⟨f1, ?_⟩
          have f2' : (n.wd (n.w.app (.add e))).gone (n.fga (.add e)) n.sp.length = [] := f2
          rw [f2']
          simp [srt, Nr.toldA, Stp.isAdd]
        | _ => cases ca
      · have ca' : s.isAdd = false := by simpa using ca
        have hcg : (n.wd (n.w.app s)).rule ≠ "just" → ∀ i k, n.fga s i k = n.tcs s i k := fun hr i k => by
          unfold Nr.fga
          rw [ca', Bool.not_false, Bool.true_and]
          exact fgs_tcs (n := n) hr ok.rl
        refine ⟨?_, ?_⟩
        · rw [fgot_congr hcg]
          cases s with
          | add e => cases ca'
          | ask i k => exact absurd rfl (hq' i k)
          | _ => rfl
        · rw [gone_congr hcg]
          unfold Nr.toldA
          rw [ca']
          rfl
    rw [eN.1] at hA3
    have frm : Frame (a :: ak :: ac :: (ks ++ Sw)) L L3 := by
      intro x h1 h2
      have hx1 : L1 x = L x := fr1 x (by simp) h2
      have hx1' : L1 x ≠ none := by rw [hx1]; exact h2
      have hxw : x ∉ Sw := fun z => h1 (by simp [z])
      have hx2 : L2 x = L1 x := g2 x hxw hx1'
      have hxw' : x ∉ Sw' := fun z => (g3 x z).elim hxw hx1'
      rw [fr3 x (by
        simp only [List.mem_cons, List.mem_append, not_or] at h1 ⊢
        exact ⟨h1.1, h1.2.1, h1.2.2.1, h1.2.2.2.1, hxw'⟩) (by rw [hx2]; exact hx1'), hx2, hx1]
    have grw : Grow (a :: ak :: ac :: (ks ++ Sw)) (a :: ak :: ac :: (ks ++ Sw')) L := by
      intro x hx
      by_cases hxS : x ∈ a :: ak :: ac :: (ks ++ Sw)
      · exact .inl hxS
      · right
        have hxw' : x ∈ Sw' := by
          simp only [List.mem_cons, List.mem_append, not_or] at hx hxS
          rcases hx with z | z | z | z | z
          · exact absurd z hxS.1
          · exact absurd z hxS.2.1
          · exact absurd z hxS.2.2.1
          · exact absurd z hxS.2.2.2.1
          · exact z
        rcases g3 x hxw' with z | z
        · exact absurd (by simp [z]) hxS
        · cases e : L x with
          | none => rfl
          | some o =>
            rw [fr1 x (by simp) (by rw [e]; exact nofun), e] at z
            cases z
    have fin := h L3 _ hA3.isM frm grw
    simp only [w_ret, w_tup, w_cons, w_nil, w_var, w_cb, List.getElem?_cons_zero, List.getElem?_cons_succ]
    refine sortP_l (ls := ((n.wd (n.w.app s)).gone (n.fga s) n.sp.length).map ipL) (by simp only [lstOf]; rw [hg3]; rfl) (ipsOf_map _) ?_
    rw [eN.2]
    exact ⟨sz (show 2 ≤ 100000 by decide), retS fin⟩
end LK
set_option Elab.async false
set_option linter.all false
set_option maxRecDepth 100000
set_option maxHeartbeats 1000000
/-! kinds: of a world, of the law's. -/
namespace LK
open PySem PySem.Spec PyProof.Rows L2
/-! letters, sorted -/
def cd (z : Str) : Nat := z.cps.toList.headD 0
def Rl (a b : Str) : Prop := a = b ∨ cd a < cd b
theorem Rl.trans {a b c : Str} (h : Rl a b) (g : Rl b c) : Rl a c := by
  rcases h with rfl | h
  · exact g
  · rcases g with rfl | g
    · exact .inr h
    · exact .inr (Nat.lt_trans h g)
theorem rl_lts : ∀ a ∈ Lts, ∀ b ∈ Lts, ltCps b.cps.toList a.cps.toList = false → Rl a b := by
  unfold Rl
  have e : ∀ a ∈ Lts, ∀ b ∈ Lts, (ltCps b.cps.toList a.cps.toList = false → (decide (a = b) || decide (cd a < cd b)) = true) := by decide +kernel
  intro a ha b hb h
  have := e a ha b hb h
  simpa using this
theorem rising_pw : ∀ (r : List Str) (p : Str), (∀ z ∈ p :: r, z ∈ Lts) → risingS p r = true → (p :: r).Pairwise Rl
  | [], p, _, _ => by simp
  | x :: r, p, h, hr => by
    simp only [risingS, Bool.and_eq_true, Bool.not_eq_true'] at hr
    have ih := rising_pw r x (fun z hz => h z (List.mem_cons_of_mem _ hz)) hr.2
    have h1 := rl_lts p (h p (by simp)) x (h x (by simp)) hr.1
    refine List.pairwise_cons.mpr ⟨fun y hy => ?_, ih⟩
    rcases List.mem_cons.mp hy with rfl | hy
    · exact h1
    · exact h1.trans ((List.pairwise_cons.mp ih).1 y hy)
theorem sorted_pw {ys : List Str} (h : ∀ z ∈ ys, z ∈ Lts) (hs : sortedS ys = true) : ys.Pairwise Rl := by
  cases ys with
  | nil => simp
  | cons p r => exact rising_pw r p h hs
theorem lts_pw : Lts.Pairwise Rl := by
  unfold Lts Rl
  simp only [List.pairwise_cons, List.mem_cons, List.not_mem_nil, or_false]
  refine ⟨?_, ?_, ?_, ?_, ?_, by simp, by simp⟩
  · rintro a (rfl | rfl | rfl | rfl | rfl) <;> right <;> decide +kernel
  · rintro a (rfl | rfl | rfl | rfl) <;> right <;> decide +kernel
  · rintro a (rfl | rfl | rfl) <;> right <;> decide +kernel
  · rintro a (rfl | rfl) <;> right <;> decide +kernel
  · rintro a rfl; right; decide +kernel
theorem sorted_lts {o : List (Str × Int)} (h : Dok o) {ys : List Str} (hp : ys.Perm (o.map (·.1))) (hs : sortedS ys = true) : ys = Lts.filter fun d => (vl o d).isSome := by
  have hy : ∀ z ∈ ys, z ∈ Lts := fun z hz => by
    obtain ⟨p, hp2, rfl⟩ := List.mem_map.mp (hp.subset hz)
    exact (h.2 p hp2).1
  have nd : ys.Nodup := hp.nodup_iff.mpr h.1
  refine perm_uniq (R := Rl) (fun a b h1 h2 => ?_) (fun a => .inl rfl) ?_ (sorted_pw hy hs) (lts_pw.sublist List.filter_sublist)
  · rcases h1 with rfl | h1
    · rfl
    · rcases h2 with rfl | h2
      · rfl
      · omega
  · refine (List.perm_ext_iff_of_nodup nd (List.Nodup.sublist List.filter_sublist (show Lts.Nodup by decide +kernel))).mpr fun d => ?_
    rw [hp.mem_iff, List.mem_filter]
    constructor
    · intro hd
      obtain ⟨p, hp2, rfl⟩ := List.mem_map.mp hd
      refine ⟨(h.2 p hp2).1, ?_⟩
      cases e : vl o p.1 with
      | none => exact absurd rfl (vl_no e p hp2)
      | some b => rfl
    · rintro ⟨_, h2⟩
      obtain ⟨b, hb⟩ := Option.isSome_iff_exists.mp h2
      exact List.mem_map.mpr ⟨_, vl_mem hb, rfl⟩
/-! rows -/
def rowD (o : List (Str × Int)) : List LV := (Lts.filter fun d => (vl o d).isSome).map fun d => .tup [.str d, .int ((vl o d).getD 0)]
def kdR (els : List (Option Nat)) (qs : List Addr) : List LV := (els.zip qs).map fun p => .tup [encE p.1, .ref p.2]
def kdF (w : Wd) (els : List (Option Nat)) (is : List Nat) : List LV := (els.zip is).map fun p => .tup [encE p.1, .lst (rowD (w.dic p.2))]
def kindsV (w : Wd) : List LV := kdF w w.el (List.range w.el.length)
theorem zip_snoc {α β : Type} {e : α} {q : β} : ∀ {as : List α} {bs : List β}, as[bs.length]? = some e → as.zip (bs ++ [q]) = as.zip bs ++ [(e, q)]
  | [], bs, h => by simp at h
  | a :: as, [], h => by
    simp at h
    subst h
    simp
  | a :: as, b :: bs, h => by
    simp at h
    simp [zip_snoc h]
theorem kdR_snoc {e : Option Nat} {q : Addr} {els : List (Option Nat)} {qs : List Addr} (h : els[qs.length]? = some e) : kdR els (qs ++ [q]) = kdR els qs ++ [.tup [encE e, .ref q]] := by
  unfold kdR
  rw [zip_snoc h]
  simp
theorem kdF_snoc {w : Wd} {e : Option Nat} {i : Nat} {els : List (Option Nat)} {is : List Nat} (h : els[is.length]? = some e) : kdF w els (is ++ [i]) = kdF w els is ++ [.tup [encE e, .lst (rowD (w.dic i))]] := by
  unfold kdF
  rw [zip_snoc h]
  simp
structure Kd (L : LHp) (p : Addr) (w : Wd) (qs : List Addr) : Prop where
  len : qs.length = w.el.length
  nd : (p :: qs).Nodup
  rt : L p = some (.lst (kdR w.el qs))
  at_ : ∀ (i : Nat) (q : Addr), qs[i]? = some q → L q = some (.lst (rowD (w.dic i)))
def lers (L : LHp) (S : List Addr) : LHp := fun b => if b ∈ S then none else L b
theorem lers_in {L : LHp} {S : List Addr} {b : Addr} (h : b ∈ S) : lers L S b = none := if_pos h
theorem lers_out {L : LHp} {S : List Addr} {b : Addr} (h : b ∉ S) : lers L S b = L b := if_neg h
theorem lers_sub {L : LHp} {S : List Addr} : Sub (lers L S) L := fun a => by
  by_cases h : a ∈ S
  · exact .inl (lers_in h)
  · exact .inr (lers_out h)
section
variable {G : GA} {L : LHp} {a p : Addr} {w : Wd} {S qs : List Addr} {Q : QL} {E : XL} {n : Nat}
theorem rows_frz {K : PySem.W.Frag} {L L' : LHp} {H : Hp} {w : Wd} (s : Sub L' L) (rh : RH K L H) : ∀ {els : List (Option Nat)} {qs : List Addr} {is : List Nat} {xs : List V}, qs.length = is.length → (∀ (j : Nat) (q : Addr) (i : Nat), qs[j]? = some q → is[j]? = some i → L q = some (.lst (rowD (w.dic i))) ∧ L' q = none) → RVs K L H (kdR els qs) xs → RVs K L' H (kdF w els is) xs
  | [], qs, is, xs, hl, hq, r => by
    have : RVs K L H [] xs := r
    unfold RVs at this
    rw [this]
    exact .nil
  | e :: els, [], is, xs, hl, hq, r => by
    have e1 : is = [] := List.eq_nil_of_length_eq_zero hl.symm
    subst e1
    have : RVs K L H [] xs := r
    unfold RVs at this
    rw [this]
    exact .nil
  | e :: els, q :: qs, [], xs, hl, hq, r => by simp at hl
  | e :: els, q :: qs, i :: is, xs, hl, hq, r => by
    have r' : RVs K L H (.tup [encE e, .ref q] :: kdR els qs) xs := r
    unfold RVs at r'
    obtain ⟨x, rr, rfl, h1, h2⟩ := r'
    have ih := rows_frz s rh (w := w) (els := els) (qs := qs) (is := is) (by simpa using hl) (fun j q' i' e1 e2 => hq (j + 1) q' i' (by simpa using e1) (by simpa using e2)) h2
    refine .cons ?_ ih
    obtain ⟨t, ys, rfl, ft, ry⟩ := h1.tup_inv
    have ex := sub_ext (H := H) s
    obtain ⟨lq, nq⟩ := hq 0 q i rfl rfl
    obtain ⟨zs, hz, rz⟩ := rh.lst lq
    unfold RVs at ry
    obtain ⟨y1, r1, rfl, g1, g2⟩ := ry
    obtain ⟨y2, rfl, g3⟩ := RVs.one g2
    refine RV.of_tup (xs := [y1, y2]) (ft.ext ex) (.cons (RV.ext ex _ _ g1) (.cons ?_ .nil))
    rw [g3.ref_inv]
    exact RV.of_lst ⟨nq, hz⟩ (RVs.ext ex _ _ rz)
theorem ret_kd (h : Kd L p w qs) (k : Q (.lst (kindsV w)) (lers L (p :: qs))) : retA Q (.ref p) L := by
  refine ⟨_, _, fun K H x rh rv => ⟨sub_rh lers_sub rh, ?_, sub_none lers_sub⟩, k⟩
  rw [rv.ref_inv]
  obtain ⟨xs, hx, rx⟩ := rh.lst h.rt
  refine RV.of_lst (xs := xs) ⟨lers_in (by simp), hx⟩ (rows_frz lers_sub rh (by rw [h.len]; simp) (fun j q i h1 h2 => ?_) rx)
  have hj := (List.getElem?_eq_some_iff.mp h2).1
  have : i = j := by
    rw [List.getElem?_range (by simpa using hj)] at h2
    cases h2
    rfl
  subst this
  exact ⟨h.at_ _ _ h1, lers_in (List.mem_cons_of_mem _ (List.mem_of_getElem? h1))⟩
theorem lts_map : signs "abcdef" = Lts.map LV.str := by
  unfold signs
  have e1 : ("abcdef" : Str).cps.toList = [97, 98, 99, 100, 101, 102] := by decide +kernel
  have e2 : Lts = [⟨#[97]⟩, ⟨#[98]⟩, ⟨#[99]⟩, ⟨#[100]⟩, ⟨#[101]⟩, ⟨#[102]⟩] := by decide +kernel
  rw [e1, e2]
  rfl
theorem kinds_s (hn : 1 ≤ n) (hw : Wok w) (hW : IsW (rtW G) L a w S) (h : ∀ L' p qs, Kd L' p w qs → Frame [] L L' → (∀ x ∈ p :: qs, L x = none) → retA Q (.ref p) L') : cwk G n .World_kinds [.ref a] L Q E := by
  obtain ⟨n, rfl⟩ := Nat.exists_eq_add_of_le' hn
  show bodyC 1 5 (B_World_kinds G (cwk G n)) _ _ _ _
  refine ⟨rfl, ?_⟩
  unfold B_World_kinds
  obtain ⟨le, lo, ds, eS, nd, ha, hWd⟩ := id hW
  have w1 := hw.le
  have s2 : 2 ≤ sizeLine := sz (by decide)
  simp
  intro p hp
  have np := fun x hx => (fun e => hW.sm x hx (e ▸ hp) : x ≠ p)
  have hW1 : ∀ {L'}, Frame [] L L' → IsW (rtW G) L' a w S := fun f => hW.mono fun x hx => f x (by simp) (hW.sm x hx)
  have f0 : ∀ o, Frame [] L (lup L p o) := fun o => Frame.lup (.inr hp)
  have fe : ∀ {L'} Q, Frame [] L L' → brF G.cW "elders" (.ref a) Q L' = Q (.ref le) L' := fun Q f => fld_el (lo := lo) (f.get (by simp) ha)
  have fo : ∀ {L'} Q, Frame [] L L' → brF G.cW "own" (.ref a) Q L' = Q (.ref lo) L' := fun Q f => fld_ow (le := le) (f.get (by simp) ha)
  have fl : ∀ {L'} Q, Frame [] L L' → lLen [.ref le] L' Q = Q (.int w.el.length) L' := fun Q f => by rw [c_len_r (f.get (by simp) hWd.el), List.length_map]
  rw [fe _ (f0 _), fl _ (f0 _)]
  simp
  refine ⟨by omega, ?_⟩
  rw [upto_rng]
  refine forGo_ind (fun ls σ L' => ∃ i qs o2 o3 o4, i ≤ w.el.length ∧ ls = rng i (w.el.length - i) ∧ σ = [some (.ref a), some (.ref p), o2, o3, o4] ∧ Frame [] L L' ∧ qs.length = i ∧ (p :: qs).Nodup ∧ L' p = some (.lst (kdR w.el qs)) ∧ (∀ x ∈ qs, L x = none) ∧
    (∀ (i : Nat) (q : Addr), qs[i]? = some q → L' q = some (.lst (rowD (w.dic i))))) ⟨0, [], none, none, none, Nat.zero_le _, rfl, rfl, f0 _, rfl, by simp, by rw [lup_same]; simp [kdR], by simp, fun i q e => by simp at e⟩ ?_ ?_
  · rintro σ L' ⟨i, qs, o2, o3, o4, hi, hls, rfl, fr, hl, hnd, hrt, hnew, hat⟩
    have e0 : w.el.length - i = 0 := by
      have := congrArg List.length hls
      simpa [rng] using this.symm
    simp
    exact h L' p qs ⟨by omega, hnd, hrt, hat⟩ fr fun x hx => (List.mem_cons.mp hx).elim (fun e => e ▸ hp) (hnew x)
  · rintro l ls σ L' N ⟨i, qs, o2, o3, o4, hi, hls, rfl, fr, hl, hnd, hrt, hnew, hat⟩ hN
    have hlt : i < w.el.length := by
      by_cases c : i < w.el.length
      · exact c
      · have : w.el.length - i = 0 := by omega
        rw [this] at hls
        cases hls
    obtain ⟨j, ej⟩ : ∃ j, w.el.length - i = j + 1 := ⟨w.el.length - i - 1, by omega⟩
    rw [ej, rng_succ] at hls
    obtain ⟨rfl, rfl⟩ := List.cons.inj hls
    have ei : w.el[i]? = some w.el[i] := List.getElem?_eq_getElem hlt
    generalize w.el[i] = e at ei
    subst eS
    obtain ⟨di, hd1, x1, hd2⟩ := (hW1 fr).own_ix hlt
    have xe : ∀ {L2} Q, Frame [] L L2 → lIx (.ref le) (.int i) L2 Q = Q (encE e) L2 := fun Q f => by
      rw [ix_r (f.get (by simp) hWd.el), atI_nat (l := encE e) (by rw [List.getElem?_map, ei]; rfl)]
      rfl
    have hd3 : ∀ {L2}, Frame [] L L2 → L2 di = some (.dct (encD (w.dic i))) := fun f => by
      obtain ⟨di', h1, _, h3⟩ := (hW1 f).own_ix hlt
      rw [hd1] at h1
      cases h1
      exact h3
    simp [fo _ fr, x1, tyL_rl hrt, fe _ fr, xe _ fr]
    simp only [lSortD, hd2, txt_encD]
    have dk := hw.dic i
    have dlen := dk.len
    refine ⟨by rw [List.length_map]; omega, fun ys hpm hs => ?_⟩
    have ey := sorted_lts dk hpm hs
    have hyl : ys.length ≤ 6 := by
      rw [ey]
      exact Nat.le_trans (List.length_filter_le _ _) (by decide)
    simp
    intro q hq
    have qp : p ≠ q := lists_ne hq hrt
    have qqs : ∀ x ∈ qs, x ≠ q := fun x hx => by
      obtain ⟨j, hj, rfl⟩ := List.mem_iff_getElem.mp hx
      exact lists_ne hq (hat j _ (List.getElem?_eq_getElem hj))
    have qL : L q = none := by
      cases z : L q with
      | none => rfl
      | some o =>
        have := fr.get (by simp) z
        rw [hq] at this
        cases this
    refine ⟨trivial, ?_⟩
    refine lc_ind (fun ls acc L2 => ∃ r : List Str, ls = r.map LV.str ∧ (∀ d ∈ r, d ∈ ys) ∧ L2 = lup L' q (.lst acc) ∧ acc.length + r.length = ys.length ∧ acc ++ (r.map fun d => LV.tup [.str d, .int ((vl (w.dic i) d).getD 0)]) = rowD (w.dic i)) ⟨ys, rfl, fun d h => h, rfl, by simp, by unfold rowD; rw [ey]; rfl⟩ ?_ ?_
    · rintro acc L2 ⟨r, hr, hr2, rfl, hl2, he⟩
      have : r = [] := by simpa using hr.symm
      subst this
      have he' : acc = rowD (w.dic i) := by simpa using he
      subst he'
      simp only [finL]
      refine ⟨s2, ?_⟩
      have hrt2 : (lup L' q (.lst (rowD (w.dic i)))) p = some (.lst (kdR w.el qs)) := by rw [lup_ne qp]; exact hrt
      rw [mt_app hrt2, ← kdR_snoc (by rw [hl]; exact ei)]
      refine ⟨szl (by simp [kdR]; omega), hN _ _ ⟨i + 1, qs ++ [q], _, _, _, hlt, by congr 1; omega, rfl, ?_, by simp [hl], ?_, lup_same, ?_, ?_⟩ trivial⟩
      · intro x h1 h2
        rw [lup_ne (fun e => h2 (by rw [e]; exact hp)), lup_ne (fun e => h2 (by rw [e]; exact qL))]
        exact fr x h1 h2
      · have nd3 := List.nodup_cons.mp hnd
        rw [List.nodup_cons, List.nodup_append]
        refine ⟨fun z => (List.mem_append.mp z).elim nd3.1 fun y => qp (List.mem_singleton.mp y), nd3.2, by simp, fun x hx y hy => ?_⟩
        rw [List.mem_singleton.mp hy]
        exact qqs x hx
      · intro x hx
        rcases List.mem_append.mp hx with z | z
        · exact hnew x z
        · rw [List.mem_singleton.mp z]; exact qL
      · intro j q' hj
        have nq' : q' ≠ p := by
          intro z
          have m := List.mem_of_getElem? hj
          rcases List.mem_append.mp m with y | y
          · exact (List.nodup_cons.mp hnd).1 (z ▸ y)
          · exact qp (z ▸ List.mem_singleton.mp y)
        rw [lup_ne nq']
        by_cases c : j < qs.length
        · rw [List.getElem?_append_left c] at hj
          rw [lup_ne (qqs q' (List.mem_of_getElem? hj))]
          exact hat j q' hj
        · rw [List.getElem?_append_right (by omega)] at hj
          have hj0 : j = qs.length := by
            have := (List.getElem?_eq_some_iff.mp hj).1
            simp at this
            omega
          subst hj0
          simp at hj
          subst hj
          rw [lup_same, hl]
    · rintro l ls acc L2 K ⟨r, hr, hr2, rfl, hl2, he⟩ hs2 hno
      cases r with
      | nil => cases hr
      | cons d r =>
        obtain ⟨rfl, rfl⟩ := List.cons.inj hr
        have hdy := hr2 d (by simp)
        have hv : (vl (w.dic i) d).isSome = true := by
          rw [ey, List.mem_filter] at hdy
          exact hdy.2
        obtain ⟨b, hb⟩ := Option.isSome_iff_exists.mp hv
        have dq : di ≠ q := lists_ne hq hd2
        have hd4 : (lup L' q (.lst acc)) di = some (.dct (encD (w.dic i))) := by rw [lup_ne dq]; exact hd2
        unfold stepLc
        simp [lwipe, xYes, ix_dd hd4, hb]
        refine ⟨s2, hs2 _ _ lup_same (szl (by simp at hl2; omega)) trivial ⟨r, rfl, fun d' hd' => hr2 d' (by simp [hd']), by rw [lup_lup], by simp at hl2 ⊢; omega, ?_⟩⟩
        rw [← he]
        simp [hb]
theorem kinds_f (hn : 1 ≤ n) (hw : Wok w) (hW : IsW (rtW G) L a w S) (h : ∀ L', Frame [] L L' → Q (.lst (kindsV w)) L') : cwk G n .World_kinds [.ref a] L Q E :=
  kinds_s hn hw hW fun L' p qs k f nw => ret_kd k (h _ fun x h1 h2 => by rw [lers_out (fun z => h2 (nw x z))]; exact f x h1 h2)
theorem l_kinds_s (hn : 1 ≤ n) (hw : Wok w) (hW : IsW rtL L a w S) (h : ∀ L', Frame [] L L' → Q (.lst (kindsV w)) L') : cwk G n .l_kinds [.ref a] L Q E := by
  obtain ⟨n, rfl⟩ := Nat.exists_eq_add_of_le' hn
  show bodyC 1 5 (B_l_kinds G (cwk G n)) _ _ _ _
  refine ⟨rfl, ?_⟩
  unfold B_l_kinds
  obtain ⟨le, lo, ds, eS, nd, ha, hWd⟩ := id hW
  have w1 := hw.le
  have s2 : 2 ≤ sizeLine := sz (by decide)
  simp
  intro p hp
  have hW1 : ∀ {L'}, Frame [] L L' → IsW rtL L' a w S := fun f => hW.mono fun x hx => f x (by simp) (hW.sm x hx)
  have f0 : ∀ o, Frame [] L (lup L p o) := fun o => Frame.lup (.inr hp)
  have fe : ∀ {L'} Q, Frame [] L L' → lIx (.ref a) (.str "elders") L' Q = Q (.ref le) L' := fun Q f => rL_el (lo := lo) (f.get (by simp) ha)
  have fo : ∀ {L'} Q, Frame [] L L' → lIx (.ref a) (.str "own") L' Q = Q (.ref lo) L' := fun Q f => rL_ow (le := le) (f.get (by simp) ha)
  have fl : ∀ {L'} Q, Frame [] L L' → lLen [.ref le] L' Q = Q (.int w.el.length) L' := fun Q f => by rw [c_len_r (f.get (by simp) hWd.el), List.length_map]
  rw [fe _ (f0 _), fl _ (f0 _)]
  simp
  refine ⟨by omega, ?_⟩
  rw [upto_rng]
  refine forGo_ind (fun ls σ L' => ∃ i o2 o3 o4, i ≤ w.el.length ∧ ls = rng i (w.el.length - i) ∧ σ = [some (.ref a), some (.ref p), o2, o3, o4] ∧ L' = lup L p (.lst (kdF w w.el (List.range i)))) ⟨0, none, none, none, Nat.zero_le _, rfl, rfl, by simp [kdF]⟩ ?_ ?_
  · rintro σ L' ⟨i, o2, o3, o4, hi, hls, rfl, rfl⟩
    have e0 : w.el.length - i = 0 := by
      have := congrArg List.length hls
      simpa [rng] using this.symm
    have e1 : i = w.el.length := by omega
    subst e1
    simp
    refine ret_frz lup_same ?_
    rw [ler_lup hp]
    exact h L Frame.refl
  · rintro l ls σ L' N ⟨i, o2, o3, o4, hi, hls, rfl, rfl⟩ hN
    have hlt : i < w.el.length := by
      by_cases c : i < w.el.length
      · exact c
      · have : w.el.length - i = 0 := by omega
        rw [this] at hls
        cases hls
    obtain ⟨j, ej⟩ : ∃ j, w.el.length - i = j + 1 := ⟨w.el.length - i - 1, by omega⟩
    rw [ej, rng_succ] at hls
    obtain ⟨rfl, rfl⟩ := List.cons.inj hls
    have ei : w.el[i]? = some w.el[i] := List.getElem?_eq_getElem hlt
    generalize w.el[i] = e at ei
    subst eS
    have fr := f0 (.lst (kdF w w.el (List.range i)))
    have hrt : (lup L p (.lst (kdF w w.el (List.range i)))) p = some (.lst (kdF w w.el (List.range i))) := lup_same
    obtain ⟨di, hd1, x1, hd2⟩ := (hW1 fr).own_ix hlt
    have xe : ∀ {L2} Q, Frame [] L L2 → lIx (.ref le) (.int i) L2 Q = Q (encE e) L2 := fun Q f => by
      rw [ix_r (f.get (by simp) hWd.el), atI_nat (l := encE e) (by rw [List.getElem?_map, ei]; rfl)]
      rfl
    simp [fo _ fr, x1, tyL_rl hrt, fe _ fr, xe _ fr, -List.map_map]
    rw [show signs (Str.ofString "abcdef") = Lts.map LV.str from lts_map]
    refine lc_pure (fun l => match l with
      | .str d => if (vl (w.dic i) d).isSome = true then some (.tup [.str d, .int ((vl (w.dic i) d).getD 0)]) else none
      | _ => none) (by simp [Lts]; exact sz (by decide)) (fun _ _ _ => trivial) ?_ ?_
    · intro l hl A o K hA q
      obtain ⟨d, hd, rfl⟩ := List.mem_map.mp hl
      have da : di ≠ A := lists_ne hA hd2
      have hd4 : (lup (lup L p (.lst (kdF w w.el (List.range i)))) A o) di = some (.dct (encD (w.dic i))) := by rw [lup_ne da]; exact hd2
      unfold stepLc
      cases c : vl (w.dic i) d with
      | none =>
        simp [c] at q
        simp [lwipe, in_dd hd4, c]
        exact q
      | some b =>
        simp [c] at q
        simp [lwipe, in_dd hd4, ix_dd hd4, c]
        exact ⟨s2, q⟩
    · have ef : (Lts.map LV.str).filterMap (fun l => match l with
          | .str d => if (vl (w.dic i) d).isSome = true then some (LV.tup [.str d, .int ((vl (w.dic i) d).getD 0)]) else none
          | _ => none) = rowD (w.dic i) := by
        unfold rowD
        induction Lts with
        | nil => rfl
        | cons d r ih =>
          rw [List.map_cons, List.filterMap_cons, ih, List.filter_cons]
          by_cases c : (vl (w.dic i) d).isSome = true
          · simp [c]
          · simp [c]
      rw [ef]
      refine ⟨s2, ?_⟩
      rw [mt_app hrt, lup_lup, ← kdF_snoc (by rw [List.length_range]; exact ei), ← List.range_succ]
      exact ⟨szl (by simp [kdF]; omega), hN _ _ ⟨i + 1, _, _, _, hlt, by congr 1; omega, rfl, rfl⟩ trivial⟩
end
section
variable {G : GA} {L : LHp} {a : Addr} {m : Nr} {S : List Addr} {Q : QL} {E : XL} {n : Nat}
theorem nkinds_s (hn : 2 ≤ n) (ok : Nok m) (hN : IsN G L a m S) (h : ∀ L' p qs, Kd L' p m.w qs → Frame [] L L' → (∀ x ∈ p :: qs, L x = none) → Q (.ref p) L') : cwk G n .Near_kinds [.ref a] L Q E := by
  obtain ⟨n, rfl⟩ := Nat.exists_eq_add_of_le' hn
  show bodyC 1 1 (B_Near_kinds G (cwk G (n + 1))) _ _ _ _
  refine ⟨rfl, ?_⟩
  unfold B_Near_kinds
  obtain ⟨aw, ak, Sw, rfl, nd, ha, hk, hw⟩ := hN
  obtain ⟨le, lo, ds, e, _, haw, _⟩ := id hw
  have m1 : ∀ f, brM G.cW "kinds" (.ref aw) f L = f aw L := fun f => brM_of haw (by rfl)
  simp [fN_world ha, m1]
  exact kinds_s (by omega) ok.w hw fun L' p qs h1 h2 h3 => retS (retS (h L' p qs h1 h2 h3))
theorem nkinds_f (hn : 2 ≤ n) (ok : Nok m) (hN : IsN G L a m S) (h : ∀ L', Frame [] L L' → Q (.lst (kindsV m.w)) L') : cwk G n .Near_kinds [.ref a] L Q E := by
  obtain ⟨n, rfl⟩ := Nat.exists_eq_add_of_le' hn
  show bodyC 1 1 (B_Near_kinds G (cwk G (n + 1))) _ _ _ _
  refine ⟨rfl, ?_⟩
  unfold B_Near_kinds
  obtain ⟨aw, ak, Sw, rfl, nd, ha, hk, hw⟩ := hN
  obtain ⟨le, lo, ds, e, _, haw, _⟩ := id hw
  have m1 : ∀ f, brM G.cW "kinds" (.ref aw) f L = f aw L := fun f => brM_of haw (by rfl)
  simp [fN_world ha, m1]
  exact kinds_f (by omega) ok.w hw fun L' h2 => retS (h L' h2)
theorem counts_s (hn : 1 ≤ n) (hN : IsN G L a m S) (h : Q (.tup [.int m.hits, .int m.misses, .int m.fgt, .int m.thr]) L) : cwk G n .Near_counts [.ref a] L Q E := by
  obtain ⟨n, rfl⟩ := Nat.exists_eq_add_of_le' hn
  show bodyC 1 1 (B_Near_counts G (cwk G n)) _ _ _ _
  refine ⟨rfl, ?_⟩
  unfold B_Near_counts
  obtain ⟨aw, ak, Sw, rfl, nd, ha, hk, hw⟩ := hN
  simp [fN_hits ha, fN_misses ha, fN_fgt ha, fN_thr ha]
  exact ⟨sz (by decide), retS h⟩
end
end LK
set_option Elab.async false
set_option linter.all false
set_option maxRecDepth 100000
set_option maxHeartbeats 1000000
/-! alike: of things that are seen as trees. -/
namespace LK
open PySem PySem.Spec PyProof.Rows L2
inductive Vw (L : LHp) : LV → LV → Prop
  | tre {a : LV} {n : Nat} (h : a.tre true n = true) : Vw L a a
  | ref {p : Addr} {ls ls' : List LV} (h : L p = some (.lst ls)) (hl : ls.length = ls'.length) (hv : ∀ (i : Nat) (x y : LV), ls[i]? = some x → ls'[i]? = some y → Vw L x y) : Vw L (.ref p) (.lst ls')
  | tup {ls ls' : List LV} (hl : ls.length = ls'.length) (hv : ∀ (i : Nat) (x y : LV), ls[i]? = some x → ls'[i]? = some y → Vw L x y) : Vw L (.tup ls) (.tup ls')
  | lst {ls ls' : List LV} (hl : ls.length = ls'.length) (hv : ∀ (i : Nat) (x y : LV), ls[i]? = some x → ls'[i]? = some y → Vw L x y) : Vw L (.lst ls) (.lst ls')
variable {G : GA} {L L' : LHp} {Q : QL} {E : XL} {m : Nat} {a a' : LV}
theorem Vw.mono (h : Vw L a a') (e : ∀ p o, L p = some o → L' p = some o) : Vw L' a a' := by
  induction h with
  | tre h => exact .tre h
  | ref h hl hv ih => exact .ref (e _ _ h) hl ih
  | tup hl hv ih => exact .tup hl ih
  | lst hl hv ih => exact .lst hl ih
theorem Vw.of_ref {p : Addr} {ls : List LV} {n : Nat} (h : L p = some (.lst ls)) (t : treAll true ls n = true) : Vw L (.ref p) (.lst ls) := .ref h rfl fun i x y h1 h2 => by
  rw [h1] at h2
  cases h2
  exact .tre (treAll_iff.mp t x (List.mem_of_getElem? h1))
theorem Vw.leaf (h : Vw L a a') (q : isSq a' = false) : a = a' := by
  cases h with
  | tre h => rfl
  | _ => simp [isSq] at q
theorem Vw.isN (h : Vw L a a') : a.isN = a'.isN := by
  cases h <;> rfl
theorem Vw.isi (h : Vw L a a') : lIsi [a, .tup [.ty "tuple", .ty "list"]] L Q = Q (.bl (isSq a')) L := by
  cases h with
  | tre h => exact isi_sq h
  | ref h hl hv => simp only [lIsi, lty, h, tn2, show anyN "list" ["tuple", "list"] = some true by decide +kernel]; rfl
  | tup hl hv => simp only [lIsi, lty, tn2, show anyN "tuple" ["tuple", "list"] = some true by decide +kernel]; rfl
  | lst hl hv => simp only [lIsi, lty, tn2, show anyN "list" ["tuple", "list"] = some true by decide +kernel]; rfl
theorem Vw.isiT (h : Vw L a a') {t : String} (ht : t = "list" ∨ t = "str" ∨ t = "bool" ∨ t = "int") : lIsi [a, .ty t] L Q = Q (.bl (isT t a')) L := by
  cases h with
  | tre h => exact isi_t h ht
  | ref h hl hv =>
    rcases ht with rfl | rfl | rfl | rfl
    · simp only [lIsi, lty, h, show kitB "list" "list" = some true by decide +kernel]; rfl
    · simp only [lIsi, lty, h, show kitB "list" "str" = some false by decide +kernel]; rfl
    · simp only [lIsi, lty, h, show kitB "list" "bool" = some false by decide +kernel]; rfl
    · simp only [lIsi, lty, h, show kitB "list" "int" = some false by decide +kernel]; rfl
  | tup hl hv =>
    rcases ht with rfl | rfl | rfl | rfl
    · simp only [lIsi, lty, show kitB "tuple" "list" = some false by decide +kernel]; rfl
    · simp only [lIsi, lty, show kitB "tuple" "str" = some false by decide +kernel]; rfl
    · simp only [lIsi, lty, show kitB "tuple" "bool" = some false by decide +kernel]; rfl
    · simp only [lIsi, lty, show kitB "tuple" "int" = some false by decide +kernel]; rfl
  | lst hl hv =>
    rcases ht with rfl | rfl | rfl | rfl
    · simp only [lIsi, lty, show kitB "list" "list" = some true by decide +kernel]; rfl
    · simp only [lIsi, lty, show kitB "list" "str" = some false by decide +kernel]; rfl
    · simp only [lIsi, lty, show kitB "list" "bool" = some false by decide +kernel]; rfl
    · simp only [lIsi, lty, show kitB "list" "int" = some false by decide +kernel]; rfl
theorem Vw.len (h : Vw L a a') {as : List LV} (e : a' = .tup as ∨ a' = .lst as) : lLen [a] L Q = Q (.int as.length) L := by
  cases h with
  | tre h => rcases e with rfl | rfl <;> simp
  | ref h hl hv =>
    rcases e with e | e
    · cases e
    · cases e
      rw [c_len_r h, hl]
  | tup hl hv =>
    rcases e with e | e
    · cases e
      simp [hl]
    · cases e
  | lst hl hv =>
    rcases e with e | e
    · cases e
    · cases e
      simp [hl]
theorem Vw.ix (h : Vw L a a') {as : List LV} (e : a' = .tup as ∨ a' = .lst as) {i : Nat} {y : LV} (hy : as[i]? = some y) (ty : ∃ n, y.tre true n = true) : ∃ x, Vw L x y ∧ ∀ L2 Q, (∀ p o, L p = some o → L2 p = some o) → lIx a (.int i) L2 Q = Q x L2 := by
  have hi := (List.getElem?_eq_some_iff.mp hy).1
  cases h with
  | tre h =>
    obtain ⟨n, tn⟩ := ty
    refine ⟨y, .tre tn, fun L2 Q _ => ?_⟩
    rcases e with rfl | rfl
    · rw [ix_t, atI_nat hy]; rfl
    · rw [ix_l, atI_nat hy]; rfl
  | @ref p ls ls' h hl hv =>
    rcases e with e | e
    · cases e
    · cases e
      have hx : ls[i]? = some ls[i] := List.getElem?_eq_getElem (by omega)
      refine ⟨ls[i], hv i _ _ hx hy, fun L2 Q hm => ?_⟩
      rw [ix_r (hm _ _ h), atI_nat hx]; rfl
  | @tup ls ls' hl hv =>
    rcases e with e | e
    · cases e
      have hx : ls[i]? = some ls[i] := List.getElem?_eq_getElem (by omega)
      refine ⟨ls[i], hv i _ _ hx hy, fun L2 Q hm => ?_⟩
      rw [ix_t, atI_nat hx]; rfl
    · cases e
  | @lst ls ls' hl hv =>
    rcases e with e | e
    · cases e
    · cases e
      have hx : ls[i]? = some ls[i] := List.getElem?_eq_getElem (by omega)
      refine ⟨ls[i], hv i _ _ hx hy, fun L2 Q hm => ?_⟩
      rw [ix_l, atI_nat hx]; rfl
theorem alikev_seq {as bs : List LV} {d k : Nat} {x y x' y' : LV} (vx : Vw L x x') (vy : Vw L y y') (hx : x' = .tup as ∨ x' = .lst as) (hy : y' = .tup bs ∨ y' = .lst bs) (hl : as.length = bs.length) (hs : bs.length ≤ 100000) (ta : treAll true as k = true) (tb : treAll true bs d = true) (sb : smlAll bs = true)
    (ih : ∀ (a a' b b' : LV) (k : Nat) (Q : QL) (E : XL) (L : LHp), Vw L a a' → Vw L b b' → a'.tre true k = true → b'.tre true d = true → b'.sml = true → (∀ r : Bool, (r = true ↔ a' = b') → Q (.bl r) L) → cwk G m .l_alike [a, b] L Q E) (h : ∀ r : Bool, (r = true ↔ as = bs) → Q (.bl r) L) :
    goLc true (gNm 2) (xNotT (xTest (xCall 2 (cwk G m .l_alike) (xCons (xBin lIx (xVar 0) (xVar 2)) (xCons (xBin lIx (xVar 1) (xVar 2)) xNil))))) (xVar 2) [2] [some x, some y, none] (fun v L1 => lEq false v (.lst []) L1 Q) (upto bs.length) (fun _ => True) L := by
  refine lc_pure (badAt as bs) (by simp [upto]; exact sz hs) (fun _ _ _ => trivial) ?_ ?_
  · intro l hl2 A o K hA q
    obtain ⟨i, hi, rfl⟩ := List.mem_map.mp hl2
    have hi2 : i < bs.length := List.mem_range.mp hi
    have hi1 : i < as.length := by omega
    have up : ∀ p o', L p = some o' → lup L A o p = some o' := fun p o' hp => by rw [lup_ne (lists_ne hA hp)]; exact hp
    obtain ⟨xi, v1, x1⟩ := vx.ix hx (List.getElem?_eq_getElem hi1) ⟨k, treAll_iff.mp ta _ (List.getElem_mem hi1)⟩
    obtain ⟨yi, v2, x2⟩ := vy.ix hy (List.getElem?_eq_getElem hi2) ⟨d, treAll_iff.mp tb _ (List.getElem_mem hi2)⟩
    unfold stepLc
    simp [lwipe, x1 _ _ up, x2 _ _ up]
    refine ih _ _ _ _ k _ _ _ (v1.mono up) (v2.mono up) (treAll_iff.mp ta _ (List.getElem_mem hi1)) (treAll_iff.mp tb _ (List.getElem_mem hi2)) (smlAll_iff.mp sb _ (List.getElem_mem hi2)) fun r hr => ?_
    unfold badAt at q
    simp only [Int.toNat_natCast] at q
    have e : (as[i]? = bs[i]?) ↔ as[i] = bs[i] := by rw [List.getElem?_eq_getElem hi1, List.getElem?_eq_getElem hi2, Option.some.injEq]
    cases r with
    | true =>
      rw [if_pos (e.mpr (hr.mp rfl))] at q
      simp
      exact q
    | false =>
      rw [if_neg (fun z => Bool.noConfusion (hr.mpr (e.mp z)))] at q
      simp
      exact q
  · refine o_eq_tree (n := 1) (m := 1) (k := ((upto bs.length).filterMap (badAt as bs)).isEmpty) (by simpa [LV.tre] using bads_tre _) (by rfl) (by omega) (by omega) (by simp) ?_
    simp
    refine h _ ?_
    rw [List.isEmpty_iff, bads_nil hl]
theorem alikev_leaf {a b a' : LV} {k d : Nat} (hm : 1 ≤ m) (va : Vw L a a') (ha : a'.tre true k = true) (hb : b.tre true d = true) (hq : isSq b = false) (h : ∀ r : Bool, (r = true ↔ a' = b) → Q (.bl r) L) : cwk G m .l_alike [a, b] L Q E := by
  by_cases hs : isSq a' = false
  · have e := va.leaf hs
    subst e
    exact alike_leaf hm ha hb hq h
  obtain ⟨m, rfl⟩ := Nat.exists_eq_add_of_le' hm
  show bodyC 2 3 (B_l_alike G (cwk G m)) _ _ _ _
  refine ⟨rfl, ?_⟩
  unfold B_l_alike
  have s2 : 2 ≤ sizeLine := sz (by decide)
  have B1 : ∀ Q, lIsi [b, .tup [.ty "tuple", .ty "list"]] L Q = Q (.bl (isSq b)) L := fun Q => isi_sq hb
  have A2 : ∀ Q, lIsi [a, .ty "str"] L Q = Q (.bl (isT "str" a')) L := fun Q => va.isiT (by simp)
  have B2 : ∀ Q, lIsi [b, .ty "str"] L Q = Q (.bl (isT "str" b)) L := fun Q => isi_t hb (by simp)
  have A3 : ∀ Q, lIsi [a, .ty "bool"] L Q = Q (.bl (isT "bool" a')) L := fun Q => va.isiT (by simp)
  have B3 : ∀ Q, lIsi [b, .ty "bool"] L Q = Q (.bl (isT "bool" b)) L := fun Q => isi_t hb (by simp)
  have A4 : ∀ Q, lIsi [a, .ty "int"] L Q = Q (.bl (isT "int" a')) L := fun Q => va.isiT (by simp)
  have nN : a.isN = a'.isN := va.isN
  simp [s2, B1]
  cases b with
  | tup bs => simp [isSq] at hq
  | lst bs => simp [isSq] at hq
  | non =>
    simp [isSq, nN]
    exact retS (h _ (by cases a' <;> simp [LV.isN]))
  | str y =>
    simp [isSq, B2, isT, A2]
    cases a' with
    | tup x => simp; exact retS (h _ (by simp))
    | lst x => simp; exact retS (h _ (by simp))
    | _ => simp [isSq] at hs
  | bl y =>
    simp [isSq, B2, isT, A2, B3, A3]
    cases a' with
    | tup x => simp; exact retS (h _ (by simp))
    | lst x => simp; exact retS (h _ (by simp))
    | _ => simp [isSq] at hs
  | int y =>
    simp [isSq, B2, isT, A2, B3, A3]
    cases a' with
    | tup x => simp [B3, A3, A4, isT]; exact retS (h _ (by simp))
    | lst x => simp [B3, A3, A4, isT]; exact retS (h _ (by simp))
    | _ => simp [isSq] at hs
  | _ => simp [LV.tre] at hb
theorem alikev_s : ∀ (d : Nat) (a a' b b' : LV) (k : Nat) (Q : QL) (E : XL) (L : LHp) (m : Nat), d + 1 ≤ m → Vw L a a' → Vw L b b' → a'.tre true k = true → b'.tre true d = true → b'.sml = true → (∀ r : Bool, (r = true ↔ a' = b') → Q (.bl r) L) → cwk G m .l_alike [a, b] L Q E := by
  intro d
  induction d with
  | zero =>
    intro a a' b b' k Q E L m hm va vb ha hb sb h
    have hq : isSq b' = false := by
      cases b' with
      | tup bs => simp [LV.tre] at hb
      | lst bs => simp [LV.tre] at hb
      | _ => rfl
    have e := vb.leaf hq
    subst e
    exact alikev_leaf (by omega) va ha hb hq h
  | succ d ih =>
    intro a a' b b' k Q E L m hm va vb ha hb sb h
    by_cases hq : isSq b' = false
    · have e := vb.leaf hq
      subst e
      exact alikev_leaf (by omega) va ha hb hq h
    obtain ⟨m, rfl⟩ := Nat.exists_eq_add_of_le' (show 1 ≤ m by omega)
    show bodyC 2 3 (B_l_alike G (cwk G m)) _ _ _ _
    refine ⟨rfl, ?_⟩
    unfold B_l_alike
    have s2 : 2 ≤ sizeLine := sz (by decide)
    have A1 : ∀ Q, lIsi [a, .tup [.ty "tuple", .ty "list"]] L Q = Q (.bl (isSq a')) L := fun Q => va.isi
    have B1 : ∀ Q, lIsi [b, .tup [.ty "tuple", .ty "list"]] L Q = Q (.bl (isSq b')) L := fun Q => vb.isi
    have A5 : ∀ Q, lIsi [a, .ty "list"] L Q = Q (.bl (isT "list" a')) L := fun Q => va.isiT (by simp)
    have B5 : ∀ Q, lIsi [b, .ty "list"] L Q = Q (.bl (isT "list" b')) L := fun Q => vb.isiT (by simp)
    have ih' : ∀ (a a' b b' : LV) (k : Nat) (Q : QL) (E : XL) (L : LHp), Vw L a a' → Vw L b b' → a'.tre true k = true → b'.tre true d = true → b'.sml = true → (∀ r : Bool, (r = true ↔ a' = b') → Q (.bl r) L) → cwk G m .l_alike [a, b] L Q E := fun a a' b b' k Q E L h1 h2 h3 h4 h5 h6 => ih a a' b b' k Q E L m (by omega) h1 h2 h3 h4 h5 h6
    have main : ∀ (as bs : List LV), (a' = .tup as ∨ a' = .lst as) → (b' = .tup bs ∨ b' = .lst bs) → as.length = bs.length → (as = bs ↔ a' = b') →
        goLc true (gNm 2) (xNotT (xTest (xCall 2 (cwk G m .l_alike) (xCons (xBin lIx (xVar 0) (xVar 2)) (xCons (xBin lIx (xVar 1) (xVar 2)) xNil))))) (xVar 2) [2] [some a, some b, none] (fun v L1 => lEq false v (.lst []) L1 (retA Q)) (upto bs.length) (fun _ => True) L := fun as bs h1 h2 h3 h4 => by
      have ta : treAll true as (k - 1) = true := by
        rcases h1 with rfl | rfl <;> (simp only [LV.tre, Bool.and_eq_true] at ha; exact ha.2)
      have tb : treAll true bs d = true := by
        rcases h2 with rfl | rfl <;> (simp only [LV.tre, Bool.and_eq_true] at hb; exact hb.2)
      have sb' : bs.length ≤ 100000 ∧ smlAll bs = true := by
        rcases h2 with rfl | rfl <;> simpa [LV.sml] using sb
      exact alikev_seq va vb h1 h2 h3 sb'.1 ta tb sb'.2 ih' fun r hr => retS (h r (hr.trans h4))
    have len : ∀ bs, (b' = .tup bs ∨ b' = .lst bs) → (bs.length : Int) < 4611686018427387904 := fun bs h2 => by
      have sb' : bs.length ≤ 100000 := by
        rcases h2 with rfl | rfl <;> (simp only [LV.sml, Bool.and_eq_true, decide_eq_true_eq] at sb; exact sb.1)
      omega
    have fin : ∀ (tb ta : Bool), isT "list" b' = tb → isT "list" a' = ta → ∀ as bs, (a' = .tup as ∨ a' = .lst as) → (b' = .tup bs ∨ b' = .lst bs) → (ta = tb → (as = bs ↔ a' = b')) → (ta ≠ tb → a' ≠ b') →
        B_l_alike G (cwk G m) { nx := fun x L' => retA Q LV.non L', rt := retA Q, bk := fun x x_1 => False, ct := fun x x_1 => False, ex := exA E } (startL 3 [a, b]) L := fun tb ta e1 e2 as bs h1 h2 h3 h4 => by
      unfold B_l_alike
      have sa : isSq a' = true := by rcases h1 with rfl | rfl <;> rfl
      have sb2 : isSq b' = true := by rcases h2 with rfl | rfl <;> rfl
      have l1 : ∀ Q, lLen [a] L Q = Q (.int as.length) L := fun Q => va.len h1
      have l2 : ∀ Q, lLen [b] L Q = Q (.int bs.length) L := fun Q => vb.len h2
      have l3 := len bs h2
      by_cases c : ta = tb
      · by_cases hl : as.length = bs.length
        · simp [s2, A1, B1, A5, B5, sa, sb2, e1, e2, c, l1, l2, hl, l3]
          exact main as bs h1 h2 hl (h3 c)
        · have hl' : ¬ (as.length : Int) = bs.length := by omega
          simp [s2, A1, B1, A5, B5, sa, sb2, e1, e2, c, l1, l2, hl']
          refine retS (h _ ?_)
          simp only [Bool.false_eq_true, false_iff]
          exact fun z => hl (by rw [(h3 c).mpr z])
      · have c2 := h4 c
        simp [s2, A1, B1, A5, B5, sa, sb2, e1, e2, c]
        refine retS (h _ ?_)
        simp [c2]
    have go := fin
    cases b' with
    | tup bs =>
      cases a' with
      | tup as => exact go false false rfl rfl as bs (.inl rfl) (.inl rfl) (fun _ => by simp) (fun z => absurd rfl z)
      | lst as => exact go false true rfl rfl as bs (.inr rfl) (.inl rfl) (fun z => by cases z) (fun _ => by simp)
      | _ =>
        have e := va.leaf (by rfl)
        subst e
        simp [s2, A1, B1, isSq]
        exact retS (h _ (by simp))
    | lst bs =>
      cases a' with
      | lst as => exact go true true rfl rfl as bs (.inr rfl) (.inr rfl) (fun _ => by simp) (fun z => absurd rfl z)
      | tup as => exact go true false rfl rfl as bs (.inl rfl) (.inr rfl) (fun z => by cases z) (fun _ => by simp)
      | _ =>
        have e := va.leaf (by rfl)
        subst e
        simp [s2, A1, B1, isSq]
        exact retS (h _ (by simp))
    | _ => simp [isSq] at hq
end LK
set_option Elab.async false
set_option linter.all false
set_option maxRecDepth 100000
set_option maxHeartbeats 1000000
/-! Steps done to a Near: told_by, done. -/
namespace LK
open PySem PySem.Spec PyProof.Rows L2
/-- the refusals' classes stand apart -/
def Gd (G : GA) : Prop := [G.eTooMany, G.eNoKind, G.eNoDeed, G.eNoBody, G.eRing, G.eNoSpot].Nodup
def cl6 (G : GA) : List (Addr × Str) := [(G.eTooMany, "TooMany"), (G.eNoKind, "NoKind"), (G.eNoDeed, "NoDeed"), (G.eNoBody, "NoBody"), (G.eRing, "Ring"), (G.eNoSpot, "NoSpot")]
theorem cl6_look {G : GA} (gd : Gd G) (x : Er) : (cl6 G).lookup (x.at G).c = some x.name := by
  unfold Gd at gd
  simp only [List.nodup_cons, List.mem_cons, List.not_mem_nil, or_false, not_or] at gd
  obtain ⟨⟨a1, a2, a3, a4, a5⟩, ⟨b2, b3, b4, b5⟩, ⟨c3, c4, c5⟩, ⟨d4, d5⟩, e5, _⟩ := gd
  have f : ∀ {x y : Addr}, ¬ x = y → (y == x) = false := fun h => beq_eq_false_iff_ne.mpr fun e => h e.symm
  cases x <;> simp only [cl6, Er.at, Er.name, List.lookup, beq_self_eq_true, f a1, f a2, f a3, f a4, f a5, f b2, f b3, f b4, f b5, f c3, f c4, f c5, f d4, f d5, f e5]
variable {G : GA} {L : LHp} {a : Addr} {n : Nr} {S : List Addr} {Q : QL} {E : XL} {m : Nat}
@[simp ↓] theorem w_tryM {t : LTS} {cl : List (Addr × Str)} {a c d : LSt → LHp → Prop} {b : QL} {e : XL} {σ : LSt} : sTryM t cl { nx := a, rt := b, bk := c, ct := d, ex := e } σ L = t { nx := a, rt := b, bk := c, ct := d, ex := fun e L1 => match cl.lookup e.c with
  | some s => b (.str s) L1
  | none => False } σ L := id rfl
theorem told_s {s : Stp} (hm : 5 ≤ m) (hf : s.fine) (ok : Nok n) (hN : IsN G L a n S)
    (hok : ∀ L' S', (∀ i k, s = .ask i k → n.chkA i k = none) → ((∀ i k, s ≠ .ask i k) → n.w.chk s = none) → IsN G L' a (n.step s) S' → Frame S L L' → Grow S S' L → Q (n.tells s) L')
    (hno : ∀ x : Er, n.step s = n → n.tells s = .str x.name → E (x.at G) L) : cwk G m .told_by [.ref a, s.enc] L Q E := by
  obtain ⟨m, rfl⟩ := Nat.exists_eq_add_of_le' hm
  show bodyC 2 2 (B_told_by G (cwk G (m + 4))) _ _ _ _
  refine ⟨rfl, ?_⟩
  unfold B_told_by
  obtain ⟨z1, z2⟩ := fine_sz hf
  have frz : ∀ (L' : LHp) (q : Addr) (v : LV) (ps : List (Int × Int)) (n' : Nr) (S' : List Addr), L q = none → L' q = some (.lst (ps.map ipL)) → IsN G L' a n' S' → q ∉ S' → Frame S L L' → (∀ L'', IsN G L'' a n' S' → Frame S L L'' → Q (.tup [v, .lst (ps.map ipL)]) L'') → retA (retA Q) (.tup [v, .ref q]) L' := fun L' q v ps n' S' hq hq2 h1 hqS h2 k => by
    refine ret_tupfrz hq2 (retS (k _ (h1.mono fun x hx => ler_ne (fun e => hqS (e ▸ hx))) fun x h3 h4 => ?_))
    rw [ler_ne (fun e => h4 (by rw [e]; exact hq))]
    exact h2 x h3 h4
  have nS : ∀ {q}, L q = none → q ∉ S := fun hq z => hN.sm _ z hq
  cases s with
  | ask i k =>
    simp [Stp.enc]
    simp [nmt (mth := "ask") hN (fun _ _ _ => by rfl)]
    refine ask_s (by omega) ok hN (fun hc L' h1 h2 => ?_) fun x hx => ex_same (hno x (by simp [Nr.step, hx]) (by simp [Nr.tells, hx]))
    refine retS ?_
    have := hok L' S (fun i' k' e => by cases e; exact hc) (fun z => absurd rfl (z i k)) (by simpa [Nr.step, hc] using h1) h2 Grow.refl
    simpa [Nr.tells, hc] using this
  | add e =>
    have hq' : ∀ i k, Stp.add e ≠ .ask i k := fun i k => nofun
    simp [Stp.enc]
    simp [nmt (mth := "add") hN (fun _ _ _ => by rfl)]
    refine nadd_s (by omega) ok hN (fun hc L' q S' hq hq2 h1 hqS h2 h3 => ?_) fun x hx => ex_same (hno x (step_x hq' hx).1 (step_x hq' hx).2)
    obtain ⟨e1, e2⟩ := step_c hq' hc
    refine frz L' q (.int n.w.el.length) [] _ S' hq hq2 h1 hqS h2 fun L'' g1 g2 => ?_
    have := hok L'' S' (fun i' k' e => by cases e) (fun _ => hc) (by rw [e1]; exact g1) g2 h3
    rw [e2] at this
    simpa [Nr.toldA, Stp.isAdd, Wd.tells] using this
  | put kk d b =>
    have hq' : ∀ i k, Stp.put kk d b ≠ .ask i k := fun i k => nofun
    simp [Stp.enc]
    simp [nmt (mth := "put") hN (fun _ _ _ => by rfl)]
    refine nput_s (by omega) ok (z1 _ _ _ rfl) hN (fun hc L' q hq hq2 h1 h2 => ?_) fun x hx => ex_same (hno x (step_x hq' hx).1 (step_x hq' hx).2)
    obtain ⟨e1, e2⟩ := step_c hq' hc
    refine frz L' q .non _ _ S hq hq2 h1 (nS hq) h2 fun L'' g1 g2 => ?_
    have := hok L'' S (fun i' k' e => by cases e) (fun _ => hc) (by rw [e1]; exact g1) g2 Grow.refl
    rw [e2] at this
    simpa [Nr.toldA, Stp.isAdd, Wd.tells] using this
  | drop kk d =>
    have hq' : ∀ i k, Stp.drop kk d ≠ .ask i k := fun i k => nofun
    simp [Stp.enc]
    simp [nmt (mth := "drop") hN (fun _ _ _ => by rfl)]
    refine ndrop_s (by omega) ok (z2 _ _ rfl) hN (fun hc L' q hq hq2 h1 h2 => ?_) fun x hx => ex_same (hno x (step_x hq' hx).1 (step_x hq' hx).2)
    obtain ⟨e1, e2⟩ := step_c hq' hc
    refine frz L' q .non _ _ S hq hq2 h1 (nS hq) h2 fun L'' g1 g2 => ?_
    have := hok L'' S (fun i' k' e => by cases e) (fun _ => hc) (by rw [e1]; exact g1) g2 Grow.refl
    rw [e2] at this
    simpa [Nr.toldA, Stp.isAdd, Wd.tells] using this
  | turn kk e =>
    have hq' : ∀ i k, Stp.turn kk e ≠ .ask i k := fun i k => nofun
    simp [Stp.enc]
    simp [nmt (mth := "turn") hN (fun _ _ _ => by rfl)]
    refine nturn_s (by omega) ok hN (fun hc L' q hq hq2 h1 h2 => ?_) fun x hx => ex_same (hno x (step_x hq' hx).1 (step_x hq' hx).2)
    obtain ⟨e1, e2⟩ := step_c hq' hc
    refine frz L' q .non _ _ S hq hq2 h1 (nS hq) h2 fun L'' g1 g2 => ?_
    have := hok L'' S (fun i' k' e => by cases e) (fun _ => hc) (by rw [e1]; exact g1) g2 Grow.refl
    rw [e2] at this
    simpa [Nr.toldA, Stp.isAdd, Wd.tells] using this
theorem done_s {s : Stp} (gd : Gd G) (hm : 6 ≤ m) (hf : s.fine) (ok : Nok n) (hN : IsN G L a n S) (h : ∀ L' S', IsN G L' a (n.step s) S' → Frame S L L' → Grow S S' L → Q (n.tells s) L') : cwk G m .done [.ref a, s.enc] L Q E := by
  obtain ⟨m, rfl⟩ := Nat.exists_eq_add_of_le' hm
  show bodyC 2 2 (B_done G (cwk G (m + 5))) _ _ _ _
  refine ⟨rfl, ?_⟩
  unfold B_done
  simp only [w_tryM, w_ret, w_call, w_cons, w_nil, w_var, startL_def, List.length_cons, List.length_nil, List.map_cons, List.map_nil, List.replicate, List.cons_append, List.nil_append, List.getElem?_cons_zero, List.getElem?_cons_succ]
  refine ⟨trivial, told_s (by omega) hf ok hN (fun L' S' _ _ h1 h2 h3 => retS (h L' S' h1 h2 h3)) fun x e1 e2 => ?_⟩
  have hl := cl6_look gd x
  unfold cl6 at hl
  simp only [hl]
  refine retS ?_
  have := h L S (by rw [e1]; exact hN) Frame.refl Grow.refl
  rw [e2] at this
  exact this
end LK
set_option Elab.async false
set_option linter.all false
set_option maxRecDepth 100000
set_option maxHeartbeats 1000000
/-! A step done to a Near, refusals by name. -/
namespace LK
open PySem PySem.Spec PyProof.Rows L2
def Gd10 (G : GA) : Prop := [G.eTooMany, G.eNoKind, G.eNoDeed, G.eNoBody, G.eRing, G.eBadSpots, G.eBadWide, G.eBadRule, G.eNoSpot, G.eBadText].Nodup
theorem tblG_look {G : GA} (gd : Gd10 G) (x : Er) : (tblG G).lookup (x.at G).c = some x.name := by
  unfold Gd10 at gd
  simp only [List.nodup_cons, List.mem_cons, List.not_mem_nil, or_false, not_or] at gd
  obtain ⟨⟨a1, a2, a3, a4, a5, a6, a7, a8, a9⟩, ⟨b2, b3, b4, b5, b6, b7, b8, b9⟩, ⟨c3, c4, c5, c6, c7, c8, c9⟩, ⟨d4, d5, d6, d7, d8, d9⟩, ⟨e5, e6, e7, e8, e9⟩, ⟨f6, f7, f8, f9⟩, ⟨g7, g8, g9⟩, ⟨h8, h9⟩, i9, _⟩ := gd
  have f : ∀ {x y : Addr}, ¬ x = y → (y == x) = false := fun h => beq_eq_false_iff_ne.mpr fun e => h e.symm
  cases x <;> simp only [tblG, Er.at, Er.name, List.lookup, beq_self_eq_true, f a1, f a2, f a3, f a4, f a8, f b2, f b3, f b4, f b8, f c3, f c4, f c8, f d4, f d8, f e8, f f8, f g8, f h8]
variable {G : GA} {L : LHp} {a : Addr} {n : Nr} {S : List Addr} {Q : QL} {E : XL} {m : Nat}
@[simp ↓] theorem w_tryN {t : LTS} {tbl : List (Addr × Str)} {a c d : LSt → LHp → Prop} {b : QL} {e : XL} {σ : LSt} : sTryN tbl t { nx := a, rt := b, bk := c, ct := d, ex := e } σ L = t { nx := a, rt := b, bk := c, ct := d, ex := fun e L1 => match tbl.lookup e.c with
  | some s => e.row = none ∧ b (.str s) L1
  | none => False } σ L := id rfl
theorem does_s {s : Stp} (gd : Gd10 G) (hm : 5 ≤ m) (hf : s.fine) (ok : Nok n) (hN : IsN G L a n S)
    (h1 : ∀ L', (n.step s = n ∧ ∃ x, n.tells s = .str x) ∨ (∃ i k, s = .ask i k) → IsN G L' a (n.step s) S → Frame S L L' → Q (n.tells s) L')
    (h2 : ∀ L' q S', (∀ i k, s ≠ .ask i k) → n.w.chk s = none → L q = none → L' q = some (.lst ((n.toldA s).map ipL)) → IsN G L' a (n.step s) S' → q ∉ S' → Frame S L L' → Grow S S' L → retA Q (.tup [n.w.tells s, .ref q]) L') : cwk G m .l_does_k02 [.ref a, s.enc] L Q E := by
  obtain ⟨m, rfl⟩ := Nat.exists_eq_add_of_le' hm
  show bodyC 2 3 (B_l_does_k02 G (cwk G (m + 4))) _ _ _ _
  refine ⟨rfl, ?_⟩
  unfold B_l_does_k02
  obtain ⟨z1, z2⟩ := fine_sz hf
  have no : ∀ x : Er, n.step s = n → n.tells s = .str x.name → (match (tblG G).lookup (x.at G).c with
      | some s => (x.at G).row = none ∧ retA Q (.str s) L
      | none => False) := fun x e1 e2 => by
    rw [tblG_look gd x]
    have := h1 L (.inl ⟨e1, _, e2⟩) (by rw [e1]; exact hN) Frame.refl
    rw [e2] at this
    exact ⟨by cases x <;> rfl, retS this⟩
  have nS : ∀ {q}, L q = none → q ∉ S := fun hq z => hN.sm _ z hq
  cases s with
  | ask i k =>
    simp [Stp.enc]
    simp [nmt (mth := "ask") hN (fun _ _ _ => by rfl)]
    refine ask_s (by omega) ok hN (fun hc L' g1 g2 => ?_) fun x hx => no x (by simp [Nr.step, hx]) (by simp [Nr.tells, hx])
    refine retS ?_
    have := h1 L' (.inr ⟨i, k, rfl⟩) (by simpa [Nr.step, hc] using g1) g2
    simpa [Nr.tells, hc] using this
  | add e =>
    have hq' : ∀ i k, Stp.add e ≠ .ask i k := fun i k => nofun
    simp [Stp.enc]
    simp [nmt (mth := "add") hN (fun _ _ _ => by rfl)]
    refine nadd_s (by omega) ok hN (fun hc L' q S' hq hq2 g1 hqS g2 g3 => ?_) fun x hx => no x (step_x hq' hx).1 (step_x hq' hx).2
    obtain ⟨e1, e2⟩ := step_c hq' hc
    exact ret_same (h2 L' q S' hq' hc hq (by simpa [Nr.toldA, Stp.isAdd] using hq2) (by rw [e1]; exact g1) hqS g2 g3)
  | put kk d b =>
    have hq' : ∀ i k, Stp.put kk d b ≠ .ask i k := fun i k => nofun
    simp [Stp.enc]
    simp [nmt (mth := "put") hN (fun _ _ _ => by rfl)]
    refine nput_s (by omega) ok (z1 _ _ _ rfl) hN (fun hc L' q hq hq2 g1 g2 => ?_) fun x hx => no x (step_x hq' hx).1 (step_x hq' hx).2
    obtain ⟨e1, e2⟩ := step_c hq' hc
    exact ret_same (h2 L' q S hq' hc hq hq2 (by rw [e1]; exact g1) (nS hq) g2 Grow.refl)
  | drop kk d =>
    have hq' : ∀ i k, Stp.drop kk d ≠ .ask i k := fun i k => nofun
    simp [Stp.enc]
    simp [nmt (mth := "drop") hN (fun _ _ _ => by rfl)]
    refine ndrop_s (by omega) ok (z2 _ _ rfl) hN (fun hc L' q hq hq2 g1 g2 => ?_) fun x hx => no x (step_x hq' hx).1 (step_x hq' hx).2
    obtain ⟨e1, e2⟩ := step_c hq' hc
    exact ret_same (h2 L' q S hq' hc hq hq2 (by rw [e1]; exact g1) (nS hq) g2 Grow.refl)
  | turn kk e =>
    have hq' : ∀ i k, Stp.turn kk e ≠ .ask i k := fun i k => nofun
    simp [Stp.enc]
    simp [nmt (mth := "turn") hN (fun _ _ _ => by rfl)]
    refine nturn_s (by omega) ok hN (fun hc L' q hq hq2 g1 g2 => ?_) fun x hx => no x (step_x hq' hx).1 (step_x hq' hx).2
    obtain ⟨e1, e2⟩ := step_c hq' hc
    exact ret_same (h2 L' q S hq' hc hq hq2 (by rw [e1]; exact g1) (nS hq) g2 Grow.refl)
/-- what is told, put to rest -/
theorem does_f {s : Stp} (gd : Gd10 G) (hm : 5 ≤ m) (hf : s.fine) (ok : Nok n) (hN : IsN G L a n S) (h : ∀ L' S', IsN G L' a (n.step s) S' → Frame S L L' → Grow S S' L → Q (n.tells s) L') : cwk G m .l_does_k02 [.ref a, s.enc] L Q E := by
  refine does_s gd hm hf ok hN (fun L' _ g1 g2 => h L' S g1 g2 Grow.refl) fun L' q S' hq' hc hq hq2 g1 hqS g2 g3 => ?_
  refine ret_tupfrz hq2 ?_
  have := h (ler L' q) S' (g1.mono fun x hx => ler_ne (fun e => hqS (e ▸ hx))) (fun x h3 h4 => by
    rw [ler_ne (fun e => h4 (by rw [e]; exact hq))]
    exact g2 x h3 h4) g3
  rw [(step_c hq' hc).2] at this
  exact this
end LK
set_option Elab.async false
set_option linter.all false
set_option maxRecDepth 100000
set_option maxHeartbeats 1000000
/-! Steps done one by one: played, held, the law's own. -/
namespace LK
open PySem PySem.Spec PyProof.Rows L2
def runN : Nr → List Stp → Nr
  | n, [] => n
  | n, s :: ss => runN (n.step s) ss
def tellsL : Nr → List Stp → List LV
  | _, [] => []
  | n, s :: ss => n.tells s :: tellsL (n.step s) ss
theorem runN_app {n : Nr} {s : Stp} : ∀ {ss : List Stp} {n : Nr}, runN n (ss ++ [s]) = (runN n ss).step s
  | [], n => rfl
  | t :: ss, n => runN_app (ss := ss) (n := n.step t)
theorem tellsL_len : ∀ {ss : List Stp} {n : Nr}, (tellsL n ss).length = ss.length
  | [], n => rfl
  | t :: ss, n => by simp [tellsL, tellsL_len (ss := ss)]
theorem Nok.run : ∀ {ss : List Stp} {n : Nr}, Nok n → Nok (runN n ss)
  | [], n, h => h
  | t :: ss, n, h => Nok.run (ss := ss) (h.step t)
theorem Tru.run : ∀ {ss : List Stp} {n : Nr}, Nok n → Tru n n.w → Tru (runN n ss) (runN n ss).w
  | [], n, h, t => t
  | s :: ss, n, h, t => Tru.run (ss := ss) (h.step s) (t.step h s)
theorem ips_tre {ps : List (Int × Int)} : treAll true (ps.map ipL) 1 = true := treAll_iff.mpr fun l hl => by
  obtain ⟨p, _, rfl⟩ := List.mem_map.mp hl
  rfl
theorem name_tre {x : Er} {k : Nat} : (LV.str x.name).tre true k = true := by
  cases x <;> (show PyData.strOk _ = true; decide +kernel)
theorem tells_tre {n : Nr} {s : Stp} : (n.tells s).tre true 3 = true := by
  by_cases hq : ∃ i k, s = .ask i k
  · obtain ⟨i, k, rfl⟩ := hq
    cases hc : n.chkA i k with
    | some x =>
      simp only [Nr.tells, hc]
      exact name_tre
    | none =>
      simp only [Nr.tells, hc]
      cases (n.ans i.toNat k.toNat).1 <;> rfl
  · have hq' : ∀ i k, s ≠ .ask i k := fun i k e => hq ⟨i, k, e⟩
    cases hc : n.w.chk s with
    | some x => rw [(step_x hq' hc).2]; exact name_tre
    | none =>
      rw [(step_c hq' hc).2]
      have h1 : (n.w.tells s).tre true 2 = true := by cases s <;> rfl
      have h2 := ips_tre (ps := n.toldA s)
      simp [LV.tre, treAll, h1, h2]
theorem tellsL_tre : ∀ {ss : List Stp} {n : Nr}, treAll true (tellsL n ss) 3 = true
  | [], n => rfl
  | s :: ss, n => by
    simp only [tellsL, treAll, tells_tre, Bool.true_and]
    exact tellsL_tre (ss := ss)
theorem sml_ips {ps : List (Int × Int)} : smlAll (ps.map ipL) = true := smlAll_iff.mpr fun l hl => by
  obtain ⟨p, _, rfl⟩ := List.mem_map.mp hl
  rfl
theorem told_len {n : Nr} (ok : Nok n) {s : Stp} : (n.toldA s).length ≤ 100 := by
  unfold Nr.toldA
  split
  · exact Nat.zero_le _
  · unfold Nr.told
    rw [(srt_perm _).length_eq]
    have h : ∀ m, m ≤ n.sp.length → ((n.wd (n.w.app s)).gone (n.tcs s) m).length ≤ 6 * m := fun m hm => by
      induction m with
      | zero => simp [Nr.gone]
      | succ m ih =>
        rw [gone_succ, List.length_append, List.length_map]
        have h1 := ih (by omega)
        have h2 := List.length_filter_le ((n.wd (n.w.app s)).goes (n.tcs s) m) ((n.wd (n.w.app s)).at m)
        have h3 : ((n.wd (n.w.app s)).at m).length ≤ 6 := (ok.entries (by omega)).1
        omega
    have := h _ (Nat.le_refl _)
    have := ok.hi
    omega
theorem tells_sml {n : Nr} (ok : Nok n) {s : Stp} : (n.tells s).sml = true := by
  by_cases hq : ∃ i k, s = .ask i k
  · obtain ⟨i, k, rfl⟩ := hq
    cases hc : n.chkA i k with
    | some x =>
      simp only [Nr.tells, hc]
      rfl
    | none =>
      simp only [Nr.tells, hc]
      cases (n.ans i.toNat k.toNat).1 <;> rfl
  · have hq' : ∀ i k, s ≠ .ask i k := fun i k e => hq ⟨i, k, e⟩
    cases hc : n.w.chk s with
    | some x => rw [(step_x hq' hc).2]; rfl
    | none =>
      rw [(step_c hq' hc).2]
      have h1 : (n.w.tells s).sml = true := by cases s <;> rfl
      have h3 := told_len ok (s := s)
      have h4 : (n.toldA s).length ≤ 100000 := by omega
      simp [LV.sml, smlAll, h1, sml_ips, h4]
theorem tellsL_sml : ∀ {ss : List Stp} {n : Nr}, Nok n → smlAll (tellsL n ss) = true
  | [], n, _ => rfl
  | s :: ss, n, ok => by
    simp only [tellsL, smlAll, tells_sml ok, Bool.true_and]
    exact tellsL_sml (ss := ss) (ok.step s)
theorem kdF_tre {w : Wd} (hw : Wok w) {els : List (Option Nat)} {is : List Nat} : treAll true (kdF w els is) 3 = true := treAll_iff.mpr fun l hl => by
  obtain ⟨p, _, rfl⟩ := List.mem_map.mp hl
  have h1 : (encE p.1).tre true 2 = true := by cases p.1 <;> rfl
  have h2 : treAll true (rowD (w.dic p.2)) 1 = true := treAll_iff.mpr fun l hl => by
    obtain ⟨d, hd, rfl⟩ := List.mem_map.mp hl
    have hd2 := (lts_fine (List.mem_filter.mp hd).1).2
    simp [LV.tre, treAll, hd2]
  simp [LV.tre, treAll, h1, h2]
theorem kdF_sml {w : Wd} {els : List (Option Nat)} {is : List Nat} : smlAll (kdF w els is) = true := smlAll_iff.mpr fun l hl => by
  obtain ⟨p, _, rfl⟩ := List.mem_map.mp hl
  have h1 : (encE p.1).sml = true := by cases p.1 <;> rfl
  have h2 : smlAll (rowD (w.dic p.2)) = true := smlAll_iff.mpr fun l hl => by
    obtain ⟨d, hd, rfl⟩ := List.mem_map.mp hl
    rfl
  have h3 : (rowD (w.dic p.2)).length ≤ 100000 := by
    have : (rowD (w.dic p.2)).length ≤ 6 := by
      unfold rowD
      rw [List.length_map]
      exact Nat.le_trans (List.length_filter_le _ _) (by decide)
    omega
  simp [LV.sml, smlAll, h1, h2, h3]
/-- a list, at rest or written to -/
def Sq (L : LHp) (x : LV) (ls : List LV) : Prop := x = .lst ls ∨ ∃ p, x = .ref p ∧ L p = some (.lst ls)
theorem brL_sq {L L1 : LHp} {x : LV} {ls : List LV} {R : List LV → (LHp → Prop) → LHp → Prop} (h : Sq L x ls) (f : Frame [] L L1) (k : ∀ stay : LHp → Prop, (∀ L', Frame [] L L' → stay L') → R ls stay L1) : brL x R L1 := by
  rcases h with rfl | ⟨p, rfl, hp⟩
  · exact k _ fun _ _ => trivial
  · rw [brL_ref (f.get (by simp) hp)]
    exact k _ fun L' f => f.get (by simp) hp
theorem Sq.fr {L L' : LHp} {x : LV} {ls : List LV} (h : Sq L x ls) (f : Frame [] L L') : Sq L' x ls := by
  rcases h with rfl | ⟨p, rfl, hp⟩
  · exact .inl rfl
  · exact .inr ⟨p, rfl, f.get (by simp) hp⟩
theorem Frame.nul0 {L L' : LHp} (f : Frame [] L L') {x : Addr} (h : L' x = none) : L x = none := by
  cases e : L x with
  | none => rfl
  | some o =>
    rw [f.get (by simp) e] at h
    cases h
theorem frame_new {L L' L2 : LHp} {S : List Addr} (f : Frame [] L L') (g : Frame S L' L2) (nw : ∀ x ∈ S, L x = none) : Frame [] L L2 := fun x h1 h2 => by
  have e1 := f x h1 h2
  rw [g x (fun z => h2 (nw x z)) (by rw [e1]; exact h2), e1]
theorem grow_new {L L' : LHp} {S S' : List Addr} (f : Frame [] L L') (g : Grow S S' L') (nw : ∀ x ∈ S, L x = none) : ∀ x ∈ S', L x = none := fun x hx => (g x hx).elim (nw x) fun z => f.nul0 z
section
variable {G : GA} {L : LHp} {a b : Addr} {n : Nr} {S T : List Addr} {Q : QL} {E : XL} {m : Nat}
theorem l_is_s (hm : 7 ≤ m) (ok : Nok n) (hN : IsN G L a n S) (hM : IsM L b n T) (h : ∀ L', Frame [] L L' → Q (.bl true) L') : cwk G m .l_is [.ref a, .ref b] L Q E := by
  obtain ⟨m, rfl⟩ := Nat.exists_eq_add_of_le' hm
  show bodyC 2 3 (B_l_is G (cwk G (m + 6))) _ _ _ _
  refine ⟨rfl, ?_⟩
  unfold B_l_is
  obtain ⟨aw, ak, ac, ks, Sw, rfl, hA⟩ := hM.parts
  have spl := ok.spl
  have s8 := ok.hi
  have s2 : 2 ≤ sizeLine := sz (by decide)
  have g1 : ∀ Q, lIx (.ref b) (.str "spots") L Q = Q (.str n.sp) L := fun Q => gM_spots hA.rt
  have g2 : ∀ Q, lIx (.ref b) (.str "kept") L Q = Q (.ref ak) L := fun Q => gM_kept hA.rt
  have m1 : ∀ f, brM G.cN "entries" (.ref a) f L = f a L := fun f => nmt hN (fun _ _ _ => by rfl)
  simp [g1, spl]
  refine ⟨by omega, ?_⟩
  rw [upto_rng]
  refine forGo_ind (fun ls σ L' => ∃ i o2, i ≤ n.sp.length ∧ ls = rng i (n.sp.length - i) ∧ σ = [some (.ref a), some (.ref b), o2] ∧ L' = L) ⟨0, none, Nat.zero_le _, rfl, rfl, rfl⟩ ?_ ?_
  · rintro σ L' ⟨i, o2, hi, hls, rfl, rfl⟩
    have m2 : ∀ f, brM G.cN "counts" (.ref a) f L' = f a L' := fun f => nmt hN (fun _ _ _ => by rfl)
    simp [m2]
    refine counts_s (by omega) hN ?_
    try simp
    have m3 : ∀ f, brM G.cN "kinds" (.ref a) f L' = f a L' := fun f => nmt hN (fun _ _ _ => by rfl)
    simp [m3]
    refine nkinds_f (by omega) ok hN fun L2 f2 => ?_
    have hA2 : MAt L2 b n aw ak ac ks Sw := hA.mono fun x hx => f2 x (by simp) (hA.sm x hx)
    simp [s2, gM_counts hA2.rt]
    simp only [lTuple, tupOf, lstOf, hA2.cn]
    simp [gM_world hA2.rt]
    refine l_kinds_s (by omega) ok.w hA2.wd fun L3 f3 => ?_
    try simp [s2]
    have w1 := ok.w.le
    have kl : (kindsV n.w).length ≤ 100000 := by
      unfold kindsV kdF
      simp
      omega
    have kt := kdF_tre ok.w (els := n.w.el) (is := List.range n.w.el.length)
    have ksm := kdF_sml (w := n.w) (els := n.w.el) (is := List.range n.w.el.length)
    have t1 : (LV.lst [.tup [.int n.hits, .int n.misses, .int n.fgt, .int n.thr], .lst (kindsV n.w)]).tre true 5 = true := by
      unfold kindsV
      simp [LV.tre, treAll, kt]
    refine alike_s 5 _ _ 5 _ _ _ _ (by omega) t1 t1 ?_ fun r hr => ?_
    · unfold kindsV at kl ⊢
      simp [LV.sml, smlAll, ksm, kl]
    · have : r = true := hr.mpr rfl
      subst this
      exact retS (h L3 (fun x h1 h2 => by rw [f3 x (by simp) (by rw [f2 x (by simp) h2]; exact h2), f2 x (by simp) h2]))
  · rintro l ls σ L' N ⟨i, o2, hi, hls, rfl, rfl⟩ hN2
    have hlt : i < n.sp.length := by
      by_cases c : i < n.sp.length
      · exact c
      · have : n.sp.length - i = 0 := by omega
        rw [this] at hls
        cases hls
    obtain ⟨j, ej⟩ : ∃ j, n.sp.length - i = j + 1 := ⟨n.sp.length - i - 1, by omega⟩
    rw [ej, rng_succ] at hls
    obtain ⟨rfl, rfl⟩ := List.cons.inj hls
    obtain ⟨en1, en2, en3⟩ := ok.entries hlt
    obtain ⟨d, hd, hdL⟩ := hA.spot (i := i) (by rw [ok.len]; exact hlt)
    simp [m1]
    refine entries_f (by omega) ok hN (by omega) ?_
    simp [g2, hA.ix hd]
    have te : treAll true ((n.at i).map encN) 2 = true := treAll_iff.mpr fun l hl => by
      obtain ⟨e, _, rfl⟩ := List.mem_map.mp hl
      obtain ⟨k, f⟩ := e
      cases f <;> rfl
    have tl : (LV.lst ((n.at i).map encN)).tre true 3 = true := by simpa [LV.tre] using te
    refine alikev_s 3 _ _ _ _ 3 _ _ _ _ (by omega) (.tre tl) (Vw.of_ref hdL te) tl tl ?_ fun r hr => ?_
    · have sm : smlAll ((n.at i).map encN) = true := smlAll_iff.mpr fun l hl => by
        obtain ⟨e, _, rfl⟩ := List.mem_map.mp hl
        obtain ⟨k, f⟩ := e
        cases f <;> rfl
      have : (n.at i).length ≤ 100000 := by omega
      simp [LV.sml, sm, this]
    · have : r = true := hr.mpr (by simp)
      subst this
      simp
      exact hN2 _ _ ⟨i + 1, _, hlt, by congr 1; omega, rfl, rfl⟩ trivial
theorem near_make {sp : Str} {wide : Nat} {rule : Str} (hm : 2 ≤ m) (hg : goodSp sp) (hw : 1 ≤ wide ∧ wide ≤ 6) (hr : rule ∈ (["all", "deed", "below", "just"] : List Str)) {p : Addr} (hp : L p = none) (k : ∀ L' S, IsN G L' p (.new sp wide rule) S → Frame [] L L' → (∀ x ∈ S, L x = none) → Q .non L') :
    cwk G m .Near_init [.ref p, .str sp, .int wide, .str rule] (lup L p (.ins G.cN [])) Q E := by
  refine ninit_s hm hg hw hr lup_same fun L3 Sn hN fr5 gr5 => k L3 Sn hN (fun x h1 h2 => ?_) fun x hx => ?_
  · have xa : x ≠ p := fun e => h2 (by rw [e]; exact hp)
    rw [fr5 x (by simp [xa]) (by rw [lup_ne xa]; exact h2), lup_ne xa]
  · by_cases xa : x = p
    · rw [xa]; exact hp
    · rcases gr5 x hx with z | z
      · exact absurd (List.mem_singleton.mp z) xa
      · rw [lup_ne xa] at z; exact z
end
end LK
set_option Elab.async false
set_option linter.all false
set_option maxRecDepth 100000
set_option maxHeartbeats 1000000
/-! law k01: a change done to a World; what it tells held against the law's own. -/
namespace LK
open PySem PySem.Spec PyProof.Rows L2
variable {G : GA} {L : LHp} {a b h : Addr} {w : Wd} {S T : List Addr} {Q : QL} {E : XL} {m : Nat}
theorem wl_lam {tbl : List (Addr × Str)} {x : LTE} {σ : LSt} : xLam tbl x σ L Q E = x σ L (fun _ L' => Q (.str "") L') (fun e L' => match tbl.lookup e.c with
  | some s => e.row = none ∧ Q (.str s) L'
  | none => False) := rfl
/-- a change, done to a World: what it tells, or the name of its refusal -/
theorem does_w {s : Stp} (gd : Gd10 G) (hm : 4 ≤ m) (hf : s.fine) (hs : ∀ i k, s ≠ .ask i k) (hw : Wok w) (hW : IsW (rtW G) L a w S) (h1 : w.chk s = none → ∀ L' S', IsW (rtW G) L' a (w.app s) S' → Frame S L L' → Grow S S' L → Q (w.tells s) L') (h2 : ∀ x, w.chk s = some x → Q (.str x.name) L) : cwk G m .l_does [.ref a, s.enc] L Q E := by
  obtain ⟨m, rfl⟩ := Nat.exists_eq_add_of_le' hm
  show bodyC 2 3 (B_l_does G (cwk G (m + 3))) _ _ _ _
  refine ⟨rfl, ?_⟩
  unfold B_l_does
  obtain ⟨z1, z2⟩ := fine_sz hf
  have no : ∀ x : Er, w.chk s = some x → (match (tblG G).lookup (x.at G).c with
      | some s => (x.at G).row = none ∧ retA Q (.str s) L
      | none => False) := fun x hx => by
    rw [tblG_look gd x]
    exact ⟨by cases x <;> rfl, retS (h2 x hx)⟩
  cases s with
  | ask i j => exact absurd rfl (hs i j)
  | add e =>
    simp [Stp.enc]
    simp [wmeth (mth := "add") (fun _ _ => rfl) hW (fun _ _ => by rfl)]
    exact add_s (by omega) hw hW (fun hc L' S' g1 g2 g3 _ => retS (h1 hc L' S' g1 g2 g3)) no
  | put kk d b =>
    simp [Stp.enc]
    simp [wmeth (mth := "put") (fun _ _ => rfl) hW (fun _ _ => by rfl)]
    exact put_s (by omega) hw (z1 _ _ _ rfl) hW (fun hc L' g1 g2 => retS (h1 hc L' S g1 g2 Grow.refl)) no
  | drop kk d =>
    simp [Stp.enc]
    simp [wmeth (mth := "drop") (fun _ _ => rfl) hW (fun _ _ => by rfl)]
    exact drop_s (by omega) hw (z2 _ _ rfl) hW (fun hc L' g1 g2 => retS (h1 hc L' S g1 g2 Grow.refl)) no
  | turn kk e =>
    simp [Stp.enc]
    simp [wmeth (mth := "turn") (fun _ _ => rfl) hW (fun _ _ => by rfl)]
    exact turn_s (by omega) hw hW (fun hc L' g1 g2 => retS (h1 hc L' S g1 g2 Grow.refl)) no
theorem encKs_tre {is : List Nat} : (LV.lst (is.map encK)).tre true 1 = true := by
  show treAll true (is.map encK) 0 = true
  exact treAll_iff.mpr fun l hl => by obtain ⟨y, _, rfl⟩ := List.mem_map.mp hl; rfl
theorem encKs_sml {is : List Nat} (hl : is.length ≤ 1000) : (LV.lst (is.map encK)).sml = true := by
  have h1 : smlAll (is.map encK) = true := smlAll_iff.mpr fun l hl => by obtain ⟨y, _, rfl⟩ := List.mem_map.mp hl; rfl
  simp only [LV.sml, h1, Bool.and_true, decide_eq_true_eq, List.length_map]
  omega
/-- up and find of all kinds and letters -/
theorem ups01 {o0 o4 o5 o6 o7 : Option LV} {dn db dc : LSt → LHp → Prop} {dr : QL} {de : XL} (hm : 18 ≤ m) (hw : Wok w) (hW : IsW (rtW G) L a w S) (hV : IsW rtL L b w T)
    (k : ∀ o4 o5, dn [o0, some (.ref a), some (.ref b), some (.int w.el.length), o4, o5, o6, o7] L) :
    sFor (iRng (xVar 3)) (gNm 4) (sSeq (sIf (xNotT (xTest (xCall 2 (cwk G m .l_alike) (xCons (xMeth G.cW "up" 1 (cwk G m .World_up) (xVar 1) (xCons (xVar 4) xNil)) (xCons (xCall 2 (cwk G m .l_up) (xCons (xVar 2) (xCons (xVar 4) xNil))) xNil))))) (sRet (xC (.bl false))) sNext) (sFor (iStr (xC (.str "abcdef"))) (gNm 5) (sIf (xNotT (xTest (xCall 2 (cwk G m .l_alike) (xCons (xMeth G.cW "find" 2 (cwk G m .World_find) (xVar 1) (xCons (xVar 4) (xCons (xVar 5) xNil))) (xCons (xCall 3 (cwk G m .l_find) (xCons (xVar 2) (xCons (xVar 4) (xCons (xVar 5) xNil)))) xNil))))) (sRet (xC (.bl false))) sNext))) { nx := dn, rt := dr, bk := db, ct := dc, ex := de } [o0, some (.ref a), some (.ref b), some (.int w.el.length), o4, o5, o6, o7] L := by
  have w1 := hw.le
  have m1 : ∀ f, brM G.cW "up" (.ref a) f L = f a L := fun f => wmeth (fun _ _ => rfl) hW (fun _ _ => by rfl)
  have m2 : ∀ f, brM G.cW "find" (.ref a) f L = f a L := fun f => wmeth (fun _ _ => rfl) hW (fun _ _ => by rfl)
  simp only [w_seq, w_asg, w_drop, w_ret, w_next, w_if, w_nm, w_var, w_c, w_bin, w_test, w_call, w_cons, w_nil, w_mt, w_tup, w_lst, w_newF, w_newT, w_cb, w_fld, w_notT, w_andT, w_orT, brB_bl, brS_t, brS_f, brT_t, brT_f, startL_def, List.length_cons, List.length_nil, List.map_cons, List.map_nil, List.replicate, List.cons_append, List.nil_append, List.set_cons_zero, List.set_cons_succ, List.getElem?_cons_zero, List.getElem?_cons_succ, true_and, onS_some, Bool.not_true, Bool.not_false, bne_ff, bne_self_eq_false, decide_true, decide_false, w_for, w_irng]
  refine ⟨by omega, by omega, ?_⟩
  rw [upto_rng, show (w.el.length : Int).toNat = w.el.length by omega]
  refine forGo_ind (fun ls σ L' => ∃ (o4 o5 : Option LV), σ = [o0, some (.ref a), some (.ref b), some (.int w.el.length), o4, o5, o6, o7] ∧ L' = L ∧ ∀ l ∈ ls, ∃ i : Nat, i < w.el.length ∧ l = .int i) ⟨_, _, rfl, rfl, fun l hl => ?_⟩ ?_ ?_
  · obtain ⟨j, hj, rfl⟩ := List.mem_map.mp hl
    have := List.mem_range'.mp hj
    exact ⟨j, by omega, rfl⟩
  · rintro σ L' ⟨o4, o5, rfl, rfl, _⟩
    exact k _ _
  · rintro l ls σ L' N ⟨o4, o5, rfl, rfl, hin⟩ hN
    obtain ⟨i, hi, rfl⟩ := hin l List.mem_cons_self
    have okk : w.okK i := ⟨by omega, by omega⟩
    have ul : (w.up i).length ≤ 1000 := by have := uplen hw hi; omega
    simp only [w_meth, w_seq, w_asg, w_drop, w_ret, w_next, w_if, w_nm, w_var, w_c, w_bin, w_test, w_call, w_cons, w_nil, w_mt, w_tup, w_lst, w_newF, w_newT, w_cb, w_fld, w_notT, w_andT, w_orT, brB_bl, brS_t, brS_f, brT_t, brT_f, startL_def, List.length_cons, List.length_nil, List.map_cons, List.map_nil, List.replicate, List.cons_append, List.nil_append, List.set_cons_zero, List.set_cons_succ, List.getElem?_cons_zero, List.getElem?_cons_succ, true_and, onS_some, Bool.not_true, Bool.not_false, bne_ff, bne_self_eq_false, decide_true, decide_false, m1]
    refine up_s (n := m) (by omega) hw hW (fun _ => ?_) fun z => absurd okk z
    rw [Int.toNat_natCast]
    refine l_up_s (n := m) (by omega) hw hi hV ?_
    refine alike_s 1 _ _ 1 _ _ _ _ (by omega) encKs_tre encKs_tre (encKs_sml ul) fun r hr => ?_
    have er : r = true := hr.mpr rfl
    subst er
    simp only [w_seq, w_asg, w_drop, w_ret, w_next, w_if, w_nm, w_var, w_c, w_bin, w_test, w_call, w_cons, w_nil, w_mt, w_tup, w_lst, w_newF, w_newT, w_cb, w_fld, w_notT, w_andT, w_orT, brB_bl, brS_t, brS_f, brT_t, brT_f, startL_def, List.length_cons, List.length_nil, List.map_cons, List.map_nil, List.replicate, List.cons_append, List.nil_append, List.set_cons_zero, List.set_cons_succ, List.getElem?_cons_zero, List.getElem?_cons_succ, true_and, onS_some, Bool.not_true, Bool.not_false, bne_ff, bne_self_eq_false, decide_true, decide_false, w_for, w_istr, lts_map]
    refine forGo_ind (fun ls2 σ L2 => ∃ (o5 : Option LV), σ = [o0, some (.ref a), some (.ref b), some (.int w.el.length), some (.int i), o5, o6, o7] ∧ L2 = L' ∧ ∀ l ∈ ls2, ∃ d ∈ Lts, l = .str d) ⟨_, rfl, rfl, fun l hl => ?_⟩ ?_ ?_
    · obtain ⟨d, hd, rfl⟩ := List.mem_map.mp hl
      exact ⟨d, hd, rfl⟩
    · rintro σ L2 ⟨o5, rfl, rfl, _⟩
      exact hN _ _ ⟨_, _, rfl, rfl, fun l hl => hin l (List.mem_cons_of_mem _ hl)⟩ trivial
    · rintro l2 ls2 σ L2 N2 ⟨o5, rfl, rfl, hin2⟩ hN2
      obtain ⟨d, hd, rfl⟩ := hin2 l2 List.mem_cons_self
      simp only [w_meth, w_seq, w_asg, w_drop, w_ret, w_next, w_if, w_nm, w_var, w_c, w_bin, w_test, w_call, w_cons, w_nil, w_mt, w_tup, w_lst, w_newF, w_newT, w_cb, w_fld, w_notT, w_andT, w_orT, brB_bl, brS_t, brS_f, brT_t, brT_f, startL_def, List.length_cons, List.length_nil, List.map_cons, List.map_nil, List.replicate, List.cons_append, List.nil_append, List.set_cons_zero, List.set_cons_succ, List.getElem?_cons_zero, List.getElem?_cons_succ, true_and, onS_some, Bool.not_true, Bool.not_false, bne_ff, bne_self_eq_false, decide_true, decide_false, m2]
      refine find_s (n := m) (by omega) hw (sz (by rw [lts_len hd]; omega)) hW (fun _ _ => ?_) (fun z => absurd okk z) (fun _ z => absurd hd z)
      rw [Int.toNat_natCast]
      refine l_find_s (n := m) (by omega) hw hi hV ?_
      refine alike_s 1 _ _ 1 _ _ _ _ (by omega) encF_t encF_t encF_sml fun r hr => ?_
      have er : r = true := hr.mpr rfl
      subst er
      simp only [w_seq, w_asg, w_drop, w_ret, w_next, w_if, w_nm, w_var, w_c, w_bin, w_test, w_call, w_cons, w_nil, w_mt, w_tup, w_lst, w_newF, w_newT, w_cb, w_fld, w_notT, w_andT, w_orT, brB_bl, brS_t, brS_f, brT_t, brT_f, startL_def, List.length_cons, List.length_nil, List.map_cons, List.map_nil, List.replicate, List.cons_append, List.nil_append, List.set_cons_zero, List.set_cons_succ, List.getElem?_cons_zero, List.getElem?_cons_succ, true_and, onS_some, Bool.not_true, Bool.not_false, bne_ff, bne_self_eq_false, decide_true, decide_false]
      exact hN2 _ _ ⟨_, rfl, rfl, fun l hl => hin2 l (List.mem_cons_of_mem _ hl)⟩ trivial
/-- a world tells what is due -/
theorem is01_s (gd : Gd10 G) (hm : 19 ≤ m) (hw : Wok w) (H : Holds G L [(h, .hh), (a, .wd w), (b, .lw w)]) (k : ∀ L', Holds G L' [(h, .hh), (a, .wd w), (b, .lw w)] → Q (.bl true) L') : cwk G m .l_is_k01 [.ref h, .ref a, .ref b] L Q E := by
  obtain ⟨m, rfl⟩ := Nat.exists_eq_add_of_le' hm
  show bodyC 3 8 (B_l_is_k01 G (cwk G (m + 18))) _ _ _ _
  refine ⟨rfl, ?_⟩
  unfold B_l_is_k01
  have w1 := hw.le
  obtain ⟨S, g1⟩ := H.at (i := 1) (a := a) (o := .wd w) rfl
  have g1' : IsW (rtW G) L a w S := g1
  have m1 : ∀ f, brM G.cW "kinds" (.ref a) f L = f a L := fun f => wmeth (fun _ _ => rfl) g1' (fun _ _ => by rfl)
  rw [w_seq, w_if, w_notT, w_test, w_call]
  simp only [w_meth, w_asg, w_drop, w_ret, w_next, w_if, w_nm, w_var, w_c, w_bin, w_test, w_call, w_cons, w_nil, w_mt, w_tup, w_lst, w_newF, w_newT, w_cb, w_fld, w_notT, w_andT, w_orT, brB_bl, brS_t, brS_f, brT_t, brT_f, startL_def, List.length_cons, List.length_nil, List.map_cons, List.map_nil, List.replicate, List.cons_append, List.nil_append, List.set_cons_zero, List.set_cons_succ, List.getElem?_cons_zero, List.getElem?_cons_succ, true_and, onS_some, Bool.not_true, Bool.not_false, bne_ff, bne_self_eq_false, decide_true, decide_false, m1]
  refine kinds_f (n := m + 18) (by omega) hw g1' fun L2 f2 => ?_
  have H2 := H.frm f2
  obtain ⟨T, g2⟩ := H2.at (i := 2) (a := b) (o := .lw w) rfl
  have g2' : IsW rtL L2 b w T := g2
  refine l_kinds_s (n := m + 18) (by omega) hw g2' fun L3 f3 => ?_
  have H3 := H2.frm f3
  have kl : (kindsV w).length ≤ 100000 := by
    unfold kindsV kdF
    simp
    omega
  have kt := kdF_tre hw (els := w.el) (is := List.range w.el.length)
  have ksm := kdF_sml (w := w) (els := w.el) (is := List.range w.el.length)
  have t1 : (LV.lst (kindsV w)).tre true 4 = true := by
    unfold kindsV
    simp [LV.tre, kt]
  refine alike_s 4 _ _ 4 _ _ _ _ (by omega) t1 t1 ?_ fun r hr => ?_
  · unfold kindsV at kl ⊢
    simp [LV.sml, ksm, kl]
  have er : r = true := hr.mpr rfl
  subst er
  obtain ⟨S3, z1⟩ := H3.at (i := 1) (a := a) (o := .wd w) rfl
  have z1' : IsW (rtW G) L3 a w S3 := z1
  obtain ⟨T3, z2⟩ := H3.at (i := 2) (a := b) (o := .lw w) rfl
  have z2' : IsW rtL L3 b w T3 := z2
  obtain ⟨le, lo, ds, eS, nd, haw, hWd⟩ := id z2'
  have f1 : ∀ Q, lIx (.ref b) (.str "elders") L3 Q = Q (.ref le) L3 := fun Q => rL_el haw
  have f2' : ∀ Q, lLen [.ref le] L3 Q = Q (.int w.el.length) L3 := fun Q => by rw [c_len_r hWd.el, List.length_map]
  try simp only [brB_bl, brS_f, Bool.not_true, w_next]
  rw [w_seq, w_asg]
  simp only [w_asg, w_drop, w_ret, w_next, w_if, w_nm, w_var, w_c, w_bin, w_test, w_call, w_cons, w_nil, w_mt, w_tup, w_lst, w_newF, w_newT, w_cb, w_fld, w_notT, w_andT, w_orT, brB_bl, brS_t, brS_f, brT_t, brT_f, startL_def, List.length_cons, List.length_nil, List.map_cons, List.map_nil, List.replicate, List.cons_append, List.nil_append, List.set_cons_zero, List.set_cons_succ, List.getElem?_cons_zero, List.getElem?_cons_succ, true_and, onS_some, Bool.not_true, Bool.not_false, bne_ff, bne_self_eq_false, decide_true, decide_false, f1, f2']
  rw [w_seq]
  refine ups01 (m := m + 18) (by omega) hw z1' z2' fun o4 o5 => ?_
  have p6 : CPow 10 6 := ⟨by omega, by omega, by decide⟩
  have e6 : ((10 : Int) ^ (6 : Int).toNat) = 1000000 := by decide
  rw [w_seq, w_asg]
  simp only [w_asg, w_drop, w_ret, w_next, w_if, w_nm, w_var, w_c, w_bin, w_test, w_call, w_cons, w_nil, w_mt, w_tup, w_lst, w_newF, w_newT, w_cb, w_fld, w_notT, w_andT, w_orT, brB_bl, brS_t, brS_f, brT_t, brT_f, startL_def, List.length_cons, List.length_nil, List.map_cons, List.map_nil, List.replicate, List.cons_append, List.nil_append, List.set_cons_zero, List.set_cons_succ, List.getElem?_cons_zero, List.getElem?_cons_succ, true_and, onS_some, Bool.not_true, Bool.not_false, bne_ff, bne_self_eq_false, decide_true, decide_false, o_neg, o_pow_i]
  obtain ⟨S0, q1, q2, _⟩ := H3.foc_same 0 rfl
  refine ⟨p6, ?_⟩
  rw [e6]
  refine next_s (m := m + 18) (by omega) (by omega) (by omega) q1 fun L7 r r0 r1 hh7 f7 => ?_
  have H7 := q2 L7 S0 hh7 f7 Grow.refl
  simp only [o_add_i]
  obtain ⟨S0, q1, q2, _⟩ := H7.foc_same 0 rfl
  refine ⟨sz (show 3 ≤ 100000 by decide), ?_⟩
  refine next_s (m := m + 18) (by omega) (by omega) (by omega) q1 fun L8 j j0 j1 hh8 f8 => ?_
  have H8 := q2 L8 S0 hh8 f8 Grow.refl
  obtain ⟨out, hout, eo⟩ : ∃ out : Int, ¬ w.okK out ∧ ∀ L Q, lIx (.lst [.int w.el.length, .int (-1), .int (w.el.length + r)]) (.int j) L Q = Q (.int out) L := by
    have nk : ∀ i : Int, (i < 0 ∨ (w.el.length : Int) ≤ i) → ¬ w.okK i := fun i hi z => by
      have z' : 0 ≤ i ∧ i < w.el.length := z
      omega
    rcases (show j = 0 ∨ j = 1 ∨ j = 2 by omega) with rfl | rfl | rfl
    · exact ⟨_, nk w.el.length (.inr (Int.le_refl _)), fun L Q => by rw [ix_l, atI_0]; rfl⟩
    · exact ⟨_, nk (-1) (.inl (by omega)), fun L Q => by rw [ix_l, atI_1]; rfl⟩
    · exact ⟨_, nk (w.el.length + r) (.inr (by omega)), fun L Q => by rw [ix_l, atI_2]; rfl⟩
  rw [eo]
  obtain ⟨S8, z8⟩ := H8.at (i := 1) (a := a) (o := .wd w) rfl
  have z8' : IsW (rtW G) L8 a w S8 := z8
  have m8 : ∀ f, brM G.cW "up" (.ref a) f L8 = f a L8 := fun f => wmeth (fun _ _ => rfl) z8' (fun _ _ => by rfl)
  have n8 : ∀ f, brM G.cW "find" (.ref a) f L8 = f a L8 := fun f => wmeth (fun _ _ => rfl) z8' (fun _ _ => by rfl)
  have eK : (tblG G).lookup G.eNoKind = some "NoKind" := tblG_look gd .noKind
  (first | rw [w_nm, w_seq, w_if, w_test, w_bin, w_lst, w_cons] | rw [w_seq, w_if, w_test, w_bin, w_lst, w_cons])
  rw [wl_lam]
  simp only [w_meth, w_asg, w_drop, w_ret, w_next, w_if, w_nm, w_var, w_c, w_bin, w_test, w_call, w_cons, w_nil, w_mt, w_tup, w_lst, w_newF, w_newT, w_cb, w_fld, w_notT, w_andT, w_orT, brB_bl, brS_t, brS_f, brT_t, brT_f, startL_def, List.length_cons, List.length_nil, List.map_cons, List.map_nil, List.replicate, List.cons_append, List.nil_append, List.set_cons_zero, List.set_cons_succ, List.getElem?_cons_zero, List.getElem?_cons_succ, true_and, onS_some, Bool.not_true, Bool.not_false, bne_ff, bne_self_eq_false, decide_true, decide_false, m8]
  refine up_s (n := m + 18) (by omega) hw z8' (fun z => absurd z hout) fun _ => ?_
  simp only [eK]
  refine ⟨trivial, ?_⟩
  rw [wl_lam]
  simp only [w_meth, w_asg, w_drop, w_ret, w_next, w_if, w_nm, w_var, w_c, w_bin, w_test, w_call, w_cons, w_nil, w_mt, w_tup, w_lst, w_newF, w_newT, w_cb, w_fld, w_notT, w_andT, w_orT, brB_bl, brS_t, brS_f, brT_t, brT_f, startL_def, List.length_cons, List.length_nil, List.map_cons, List.map_nil, List.replicate, List.cons_append, List.nil_append, List.set_cons_zero, List.set_cons_succ, List.getElem?_cons_zero, List.getElem?_cons_succ, true_and, onS_some, Bool.not_true, Bool.not_false, bne_ff, bne_self_eq_false, decide_true, decide_false, n8]
  refine find_s (n := m + 18) (by omega) hw (sz (by decide)) z8' (fun z _ => absurd z hout) (fun _ => ?_) (fun z _ => absurd z hout)
  simp only [eK]
  refine ⟨trivial, sz (by decide), sz (by decide), ?_⟩
  have so : PyData.strOk "NoKind" = true := by decide +kernel
  have t2 : (LV.lst [.str "NoKind", .str "NoKind"]).tre true 1 = true := by simp [LV.tre, treAll, so]
  refine ⟨by omega, by omega, sz (by decide), ?_⟩
  rw [w_newT]
  refine o_eq_same (n := 1) t2 (by omega) ?_
  simp only [brB_bl, Bool.not_true, brS_f, w_next]
  rw [w_seq, w_asg]
  simp only [w_asg, w_drop, w_ret, w_next, w_if, w_nm, w_var, w_c, w_bin, w_test, w_call, w_cons, w_nil, w_mt, w_tup, w_lst, w_newF, w_newT, w_cb, w_fld, w_notT, w_andT, w_orT, brB_bl, brS_t, brS_f, brT_t, brT_f, startL_def, List.length_cons, List.length_nil, List.map_cons, List.map_nil, List.replicate, List.cons_append, List.nil_append, List.set_cons_zero, List.set_cons_succ, List.getElem?_cons_zero, List.getElem?_cons_succ, true_and, onS_some, Bool.not_true, Bool.not_false, bne_ff, bne_self_eq_false, decide_true, decide_false]
  obtain ⟨S0, q1, q2, _⟩ := H8.foc_same 0 rfl
  refine ⟨sz (show 5 ≤ 100000 by decide), next_s (m := m + 18) (by omega) (by omega) (by omega) q1 fun L9 j9 j90 j91 hh9 f9 => ?_⟩
  have H9 := q2 L9 S0 hh9 f9 Grow.refl
  obtain ⟨lt, hlt, hll, el⟩ : ∃ lt : Str, lt ∉ Lts ∧ lt.length ≤ sizeLine ∧ ∀ L Q, lIx (.lst [.str "g", .str "", .str "A", .str "ab", .str "-"]) (.int j9) L Q = Q (.str lt) L := by
    rcases (show j9 = 0 ∨ j9 = 1 ∨ j9 = 2 ∨ j9 = 3 ∨ j9 = 4 by omega) with rfl | rfl | rfl | rfl | rfl
    · exact ⟨"g", by decide +kernel, sz (by decide), fun L Q => by rw [ix_l, atI_0]; rfl⟩
    · exact ⟨"", by decide +kernel, sz (by decide), fun L Q => by rw [ix_l, atI_1]; rfl⟩
    · exact ⟨"A", by decide +kernel, sz (by decide), fun L Q => by rw [ix_l, atI_2]; rfl⟩
    · exact ⟨"ab", by decide +kernel, sz (by decide), fun L Q => by rw [ix_l, atI_3]; rfl⟩
    · exact ⟨"-", by decide +kernel, sz (by decide), fun L Q => by rw [ix_l, show _root_.L2.atI [LV.str "g", .str "", .str "A", .str "ab", .str "-"] 4 = some (.str "-") from atI_nat (k := 4) rfl]; rfl⟩
  rw [el]
  obtain ⟨S9, z9⟩ := H9.at (i := 1) (a := a) (o := .wd w) rfl
  have z9' : IsW (rtW G) L9 a w S9 := z9
  have n9 : ∀ f, brM G.cW "find" (.ref a) f L9 = f a L9 := fun f => wmeth (fun _ _ => rfl) z9' (fun _ _ => by rfl)
  rw [w_or, w_bin]
  simp only [w_asg, w_drop, w_ret, w_next, w_if, w_nm, w_var, w_c, w_bin, w_test, w_call, w_cons, w_nil, w_mt, w_tup, w_lst, w_newF, w_newT, w_cb, w_fld, w_notT, w_andT, w_orT, brB_bl, brS_t, brS_f, brT_t, brT_f, startL_def, List.length_cons, List.length_nil, List.map_cons, List.map_nil, List.replicate, List.cons_append, List.nil_append, List.set_cons_zero, List.set_cons_succ, List.getElem?_cons_zero, List.getElem?_cons_succ, true_and, onS_some, Bool.not_true, Bool.not_false, bne_ff, bne_self_eq_false, decide_true, decide_false, o_eq_i, bne_ff]
  by_cases c : (w.el.length : Int) = 0
  · simp only [c, decide_true, brV_t]
    exact retS (k _ H9)
  · simp only [c, decide_false, brV_f]
    rw [wl_lam]
    simp only [w_meth, w_asg, w_drop, w_ret, w_next, w_if, w_nm, w_var, w_c, w_bin, w_test, w_call, w_cons, w_nil, w_mt, w_tup, w_lst, w_newF, w_newT, w_cb, w_fld, w_notT, w_andT, w_orT, brB_bl, brS_t, brS_f, brT_t, brT_f, startL_def, List.length_cons, List.length_nil, List.map_cons, List.map_nil, List.replicate, List.cons_append, List.nil_append, List.set_cons_zero, List.set_cons_succ, List.getElem?_cons_zero, List.getElem?_cons_succ, true_and, onS_some, Bool.not_true, Bool.not_false, bne_ff, bne_self_eq_false, decide_true, decide_false, n9]
    refine find_s (n := m + 18) (by omega) hw hll z9' (fun _ z => absurd z hlt) (fun z => absurd ⟨by omega, by omega⟩ z) (fun _ _ => ?_)
    have eD : (tblG G).lookup G.eNoDeed = some "NoDeed" := tblG_look gd .noDeed
    simp only [eD]
    refine ⟨trivial, ?_⟩
    simp only [o_eq_s, decide_true, bne_ff]
    exact retS (k _ H9)
end LK
set_option Elab.async false
set_option linter.all false
set_option maxRecDepth 100000
set_option maxHeartbeats 1000000
/-! law k01. -/
namespace LK
open PySem PySem.Spec PyProof.Rows L2
variable {G : GA} {L : LHp} {a b h : Addr} {w : Wd} {S T : List Addr} {Q : QL} {E : XL} {m : Nat}
theorem kdR_mem1 {els : List (Option Nat)} {qs : List Addr} {l : LV} (h : l ∈ kdR els qs) : ∃ e q, q ∈ qs ∧ l = .tup [encE e, .ref q] := by
  obtain ⟨p, hp, rfl⟩ := List.mem_map.mp h
  exact ⟨p.1, p.2, (List.of_mem_zip hp).2, rfl⟩
theorem clear_s1 {p : Addr} {ls : List LV} {Q : QL} (h : L p = some (.lst ls)) : lClear (.ref p) [] L Q = Q .non (lup L p (.lst [])) := by
  simp only [lClear, h]
/-- what is told is changed -/
theorem side01 {dn db dc : LSt → LHp → Prop} {dr : QL} {de : XL} {o0 o1 o3 o4 o5 o6 o7 o8 : Option LV} (hm : 4 ≤ m) (hw : Wok w) (hW : IsW (rtW G) L a w S)
    (k : ∀ L' o7 o8, Frame [] L L' → dn [o0, o1, some (.ref a), o3, o4, o5, o6, o7, o8] L') :
    (sSeq (sFor (iLst (xMeth G.cW "kinds" 0 (cwk G m .World_kinds) (xVar 2) xNil)) (gTp [7, 8]) (sDrop (xMt "list" lAppend (xVar 8) (xCons (xTup (xCons (xC (.str "a")) (xCons (xC (.int 7)) xNil))) xNil)))) (sDrop (xMt "list" lClear (xMeth G.cW "kinds" 0 (cwk G m .World_kinds) (xVar 2) xNil) xNil))) { nx := dn, rt := dr, bk := db, ct := dc, ex := de } [o0, o1, some (.ref a), o3, o4, o5, o6, o7, o8] L := by
  have m1 : ∀ f, brM G.cW "kinds" (.ref a) f L = f a L := fun f => wmeth (fun _ _ => rfl) hW (fun _ _ => by rfl)
  simp only [w_for, w_ilst, w_meth, w_seq, w_asg, w_drop, w_ret, w_next, w_if, w_nm, w_var, w_c, w_bin, w_test, w_call, w_cons, w_nil, w_mt, w_tup, w_lst, w_newF, w_newT, w_cb, w_fld, w_notT, w_andT, w_orT, brB_bl, brS_t, brS_f, brT_t, brT_f, startL_def, List.length_cons, List.length_nil, List.map_cons, List.map_nil, List.replicate, List.cons_append, List.nil_append, List.set_cons_zero, List.set_cons_succ, List.getElem?_cons_zero, List.getElem?_cons_succ, true_and, onS_some, Bool.not_true, Bool.not_false, bne_ff, bne_self_eq_false, decide_true, decide_false, m1]
  refine kinds_s (n := m) (by omega) hw hW fun L1 p qs kd f1 nw => ret_same ?_
  rw [brL_ref kd.rt]
  refine forGo_ind (fun ls σ L' => ∃ o7 o8 qs2, (∀ l ∈ ls, l ∈ kdR w.el qs) ∧ σ = [o0, o1, some (.ref a), o3, o4, o5, o6, o7, o8] ∧ Frame [] L L' ∧ L' p = some (.lst (kdR w.el qs)) ∧ (∀ q ∈ qs, ∃ xs, L' q = some (.lst xs) ∧ xs.length ≤ qs2) ∧ qs2 + ls.length ≤ 1000) ⟨o7, o8, 6, fun l h => h, rfl, f1, kd.rt, fun q hq => ?_, ?_⟩ ?_ ?_
  · obtain ⟨i, hi, rfl⟩ := List.mem_iff_getElem.mp hq
    refine ⟨_, kd.at_ i _ (List.getElem?_eq_getElem hi), ?_⟩
    unfold rowD
    rw [List.length_map]
    exact Nat.le_trans (List.length_filter_le _ _) (by decide)
  · have w1 := hw.le
    unfold kdR
    rw [List.length_map, List.length_zip]
    omega
  · rintro σ L' ⟨o7, o8, qs2, _, rfl, fr, hp, hq, _⟩
    have hW2 : IsW (rtW G) L' a w S := hW.mono fun x hx => fr x (by simp) (hW.sm x hx)
    have m2 : ∀ f, brM G.cW "kinds" (.ref a) f L' = f a L' := fun f => wmeth (fun _ _ => rfl) hW2 (fun _ _ => by rfl)
    simp only [w_meth, w_seq, w_asg, w_drop, w_ret, w_next, w_if, w_nm, w_var, w_c, w_bin, w_test, w_call, w_cons, w_nil, w_mt, w_tup, w_lst, w_newF, w_newT, w_cb, w_fld, w_notT, w_andT, w_orT, brB_bl, brS_t, brS_f, brT_t, brT_f, startL_def, List.length_cons, List.length_nil, List.map_cons, List.map_nil, List.replicate, List.cons_append, List.nil_append, List.set_cons_zero, List.set_cons_succ, List.getElem?_cons_zero, List.getElem?_cons_succ, true_and, onS_some, Bool.not_true, Bool.not_false, bne_ff, bne_self_eq_false, decide_true, decide_false, m2]
    refine kinds_s (n := m) (by omega) hw hW2 fun L2 p2 qs3 kd2 f2 nw2 => ret_same ?_
    simp only [tyL_rl kd2.rt, true_and, clear_s1 kd2.rt]
    refine k _ _ _ fun x h1 h2 => ?_
    have h3 : L' x ≠ none := by rw [fr x h1 h2]; exact h2
    have xp : x ≠ p2 := fun e => h3 (by rw [e]; exact nw2 p2 (by simp))
    rw [lup_ne xp, f2 x h1 h3, fr x h1 h2]
  · rintro l ls σ L' N ⟨o7, o8, qs2, hls, rfl, fr, hp, hq, hl⟩ hN3
    obtain ⟨e, q, mq, rfl⟩ := kdR_mem1 (hls _ List.mem_cons_self)
    obtain ⟨xs, hx, hxl⟩ := hq q mq
    have pq : p ≠ q := fun z => (List.nodup_cons.mp kd.nd).1 (z ▸ mq)
    have q0 : L q = none := nw q (by simp [mq])
    rw [List.length_cons] at hl
    simp only [w_tp, tupOf, setAll, w_seq, w_asg, w_drop, w_ret, w_next, w_if, w_nm, w_var, w_c, w_bin, w_test, w_call, w_cons, w_nil, w_mt, w_tup, w_lst, w_newF, w_newT, w_cb, w_fld, w_notT, w_andT, w_orT, brB_bl, brS_t, brS_f, brT_t, brT_f, startL_def, List.length_cons, List.length_nil, List.map_cons, List.map_nil, List.replicate, List.cons_append, List.nil_append, List.set_cons_zero, List.set_cons_succ, List.getElem?_cons_zero, List.getElem?_cons_succ, true_and, onS_some, Bool.not_true, Bool.not_false, bne_ff, bne_self_eq_false, decide_true, decide_false, tyL_rl hx]
    refine ⟨sz (show 2 ≤ 100000 by decide), ?_⟩
    rw [mt_app hx]
    refine ⟨szl (by omega), hN3 _ _ ⟨_, _, qs2 + 1, fun l h => hls l (List.mem_cons_of_mem _ h), rfl, frame_lup fr q0, by rw [lup_ne pq]; exact hp, fun q' hq' => ?_, by omega⟩ (by rw [lup_ne pq]; exact hp)⟩
    by_cases c : q' = q
    · exact ⟨_, by rw [c, lup_same], by rw [List.length_append]; simp; omega⟩
    · obtain ⟨ys, hy, hyl⟩ := hq q' hq'
      exact ⟨ys, by rw [lup_ne c]; exact hy, by omega⟩
theorem er_strOk (x : Er) : PyData.strOk x.name = true := by cases x <;> decide +kernel
def Wd.due (w : Wd) (s : Stp) : LV := match w.chk s with
  | none => w.tells s
  | some x => .str x.name
theorem due_tre {s : Stp} : (w.due s).tre true 1 = true ∧ (w.due s).sml = true := by
  unfold Wd.due
  cases w.chk s with
  | some x =>
    have := er_strOk x
    exact ⟨this, rfl⟩
  | none => cases s <;> exact ⟨rfl, rfl⟩
def Wd.stp (w : Wd) (s : Stp) : Wd := match w.chk s with
  | none => w.app s
  | some _ => w
theorem stp_ok {s : Stp} (hw : Wok w) : Wok (w.stp s) := by
  unfold Wd.stp
  cases e : w.chk s with
  | none => exact hw.app e
  | some x => exact hw
abbrev H3 (h a b : Addr) (w v : Wd) : List (Addr × OB) := [(h, .hh), (a, .wd w), (b, .lw v)]
theorem ask01 {dn db dc : LSt → LHp → Prop} {dr : QL} {de : XL} {R : LTS} {o0 o4 o7 o8 : Option LV} {s : Stp} (gd : Gd10 G) (hm : 20 ≤ m) (hw : Wok w) (sf : s.fine) (sq : ∀ i k, s ≠ .ask i k) (J : Holds G L (H3 h a b w (w.stp s)))
    (k : ∀ L', Holds G L' (H3 h a b (w.stp s) (w.stp s)) → R { nx := dn, rt := dr, bk := db, ct := dc, ex := de } [o0, some (.ref h), some (.ref a), some (.ref b), o4, some s.enc, some (w.due s), o7, o8] L') :
    sSeq (sIf (xOrT (xNotT (xTest (xCall 2 (cwk G m .l_alike) (xCons (xCall 2 (cwk G m .l_does) (xCons (xVar 2) (xCons (xVar 5) xNil))) (xCons (xVar 6) xNil))))) (xNotT (xTest (xCall 3 (cwk G m .l_is_k01) (xCons (xVar 1) (xCons (xVar 2) (xCons (xVar 3) xNil))))))) (sRet (xC (.bl false))) sNext) R { nx := dn, rt := dr, bk := db, ct := dc, ex := de } [o0, some (.ref h), some (.ref a), some (.ref b), o4, some s.enc, some (w.due s), o7, o8] L := by
  obtain ⟨S, y1, y2, _⟩ := J.foc 1 (a := a) (o := .wd w) rfl
  have y1' : IsW (rtW G) L a w S := y1
  obtain ⟨t1, t2⟩ := due_tre (w := w) (s := s)
  rw [w_seq]
  generalize hR : R { nx := dn, rt := dr, bk := db, ct := dc, ex := de } = r at k ⊢
  clear hR
  have last : ∀ L5, Holds G L5 (H3 h a b (w.stp s) (w.stp s)) → cwk G m .l_is_k01 [.ref h, .ref a, .ref b] L5 (fun a_1 L1 => brB a_1 (fun z L1 => brS (!z) (sRet (xC (LV.bl false))) sNext { nx := r, rt := dr, bk := db, ct := dc, ex := de } [o0, some (.ref h), some (.ref a), some (.ref b), o4, some s.enc, some (w.due s), o7, o8] L1) L1) de := fun L5 J5 => by
    refine is01_s (m := m) gd (by omega) (stp_ok hw) J5 fun L6 J6 => ?_
    simp only [brB_bl, Bool.not_true, brS_f, w_next]
    exact k L6 J6
  have rest : ∀ {L5 : LHp} {Q : QL}, Q (.bl true) L5 → cwk G m .l_alike [w.due s, w.due s] L5 Q de := fun {L5 Q} q => alike_s 1 _ _ 1 _ _ _ _ (by omega) t1 t1 t2 fun r hr => by
    have er : r = true := hr.mpr rfl
    rw [er]
    exact q
  simp only [w_asg, w_drop, w_ret, w_next, w_if, w_nm, w_var, w_c, w_bin, w_test, w_call, w_cons, w_nil, w_mt, w_tup, w_lst, w_newF, w_newT, w_cb, w_fld, w_notT, w_andT, w_orT, brB_bl, brS_t, brS_f, brT_t, brT_f, startL_def, List.length_cons, List.length_nil, List.map_cons, List.map_nil, List.replicate, List.cons_append, List.nil_append, List.set_cons_zero, List.set_cons_succ, List.getElem?_cons_zero, List.getElem?_cons_succ, true_and, onS_some, Bool.not_true, Bool.not_false, bne_ff, bne_self_eq_false, decide_true, decide_false]
  cases e : w.chk s with
  | none =>
    have e1 : w.due s = w.tells s := by simp only [Wd.due, e]
    have e2 : w.stp s = w.app s := by simp only [Wd.stp, e]
    refine does_w (m := m) gd (by omega) sf sq hw y1' (fun _ L5 S' g1 g2 g3 => ?_) (fun x hx => by rw [e] at hx; cases hx)
    rw [← e1]
    refine rest ?_
    simp only [brB_bl, Bool.not_true, brT_f]
    refine last L5 ?_
    have := y2 L5 (.wd (w.app s)) S' g1 g2 g3
    rw [e2] at this ⊢
    exact this
  | some x =>
    have e1 : w.due s = .str x.name := by simp only [Wd.due, e]
    have e2 : w.stp s = w := by simp only [Wd.stp, e]
    have J' : Holds G L (H3 h a b (w.stp s) (w.stp s)) := by
      rw [e2] at J ⊢
      exact J
    have fin := last L J'
    refine does_w (m := m) gd (by omega) sf sq hw y1' (fun z => by rw [e] at z; cases z) (fun y hy => ?_)
    have ey : LV.str y.name = w.due s := by
      rw [e] at hy
      cases hy
      exact e1.symm
    rw [ey]
    refine rest ?_
    simp only [brB_bl, Bool.not_true, brT_f]
    exact fin
theorem fin01 {dn db dc : LSt → LHp → Prop} {dr : QL} {de : XL} {o0 o4 o7 o8 : Option LV} {s : Stp} (gd : Gd10 G) (hm : 20 ≤ m) (hw : Wok w) (sf : s.fine) (sq : ∀ i k, s ≠ .ask i k) (J : Holds G L (H3 h a b w (w.stp s)))
    (k : ∀ L' o7 o8, Holds G L' (H3 h a b (w.stp s) (w.stp s)) → dn [o0, some (.ref h), some (.ref a), some (.ref b), o4, some s.enc, some (w.due s), o7, o8] L') :
    (sSeq (sIf (xOrT (xNotT (xTest (xCall 2 (cwk G m .l_alike) (xCons (xCall 2 (cwk G m .l_does) (xCons (xVar 2) (xCons (xVar 5) xNil))) (xCons (xVar 6) xNil))))) (xNotT (xTest (xCall 3 (cwk G m .l_is_k01) (xCons (xVar 1) (xCons (xVar 2) (xCons (xVar 3) xNil))))))) (sRet (xC (.bl false))) sNext) (sSeq (sFor (iLst (xMeth G.cW "kinds" 0 (cwk G m .World_kinds) (xVar 2) xNil)) (gTp [7, 8]) (sDrop (xMt "list" lAppend (xVar 8) (xCons (xTup (xCons (xC (.str "a")) (xCons (xC (.int 7)) xNil))) xNil)))) (sDrop (xMt "list" lClear (xMeth G.cW "kinds" 0 (cwk G m .World_kinds) (xVar 2) xNil) xNil)))) { nx := dn, rt := dr, bk := db, ct := dc, ex := de } [o0, some (.ref h), some (.ref a), some (.ref b), o4, some s.enc, some (w.due s), o7, o8] L := by
  refine ask01 gd hm hw sf sq J fun L6 J6 => ?_
  obtain ⟨S6, z1⟩ := J6.at (i := 1) (a := a) (o := .wd (w.stp s)) rfl
  have z1' : IsW (rtW G) L6 a (w.stp s) S6 := z1
  exact side01 (m := m) (by omega) (stp_ok hw) z1' fun L7 o7 o8 f7 => k L7 o7 o8 (J6.frm f7)
theorem body01 {dn db dc : LSt → LHp → Prop} {dr : QL} {de : XL} {o0 o4 o5 o6 o7 o8 : Option LV} (gd : Gd10 G) (hm : 21 ≤ m) (hw : Wok w) (J : Holds G L (H3 h a b w w))
    (k : ∀ L' w' o5 o6 o7 o8, Holds G L' (H3 h a b w' w') → Wok w' → dn [o0, some (.ref h), some (.ref a), some (.ref b), o4, o5, o6, o7, o8] L') :
    (sSeq (sAsg (xBin lIx (xLst true (xCons (xCall 2 (cwk G m .l_step) (xCons (xVar 1) (xCons (xVar 3) xNil))) (xCons (xCall 2 (cwk G m .l_step) (xCons (xVar 1) (xCons (xVar 3) xNil))) (xCons (xCall 2 (cwk G m .l_odd) (xCons (xVar 1) (xCons (xVar 3) xNil))) xNil)))) (xCall 2 (cwk G m .l_next) (xCons (xVar 1) (xCons (xC (.int 3)) xNil)))) (gNm 5)) (sSeq (sAsg (xCall 2 (cwk G m .l_word) (xCons (xVar 3) (xCons (xVar 5) xNil))) (gNm 6)) (sSeq (sIf (xTest (xBin (lEq false) (xVar 6) (xC (.str "")))) (sAsg (xCall 2 (cwk G m .l_change) (xCons (xVar 3) (xCons (xVar 5) xNil))) (gNm 6)) sNext) (sSeq (sIf (xOrT (xNotT (xTest (xCall 2 (cwk G m .l_alike) (xCons (xCall 2 (cwk G m .l_does) (xCons (xVar 2) (xCons (xVar 5) xNil))) (xCons (xVar 6) xNil))))) (xNotT (xTest (xCall 3 (cwk G m .l_is_k01) (xCons (xVar 1) (xCons (xVar 2) (xCons (xVar 3) xNil))))))) (sRet (xC (.bl false))) sNext) (sSeq (sFor (iLst (xMeth G.cW "kinds" 0 (cwk G m .World_kinds) (xVar 2) xNil)) (gTp [7, 8]) (sDrop (xMt "list" lAppend (xVar 8) (xCons (xTup (xCons (xC (.str "a")) (xCons (xC (.int 7)) xNil))) xNil)))) (sDrop (xMt "list" lClear (xMeth G.cW "kinds" 0 (cwk G m .World_kinds) (xVar 2) xNil) xNil))))))) { nx := dn, rt := dr, bk := db, ct := dc, ex := de } [o0, some (.ref h), some (.ref a), some (.ref b), o4, o5, o6, o7, o8] L := by
  -- three steps to choose from
  have pick : ∀ {L' : LHp}, Holds G L' (H3 h a b w w) → ∀ {Q : QL} {E : XL}, (∀ L2 s, Holds G L2 (H3 h a b w w) → s.fine → (∀ i k, s ≠ Stp.ask i k) → Q s.enc L2) → cwk G (m) .l_step [.ref h, .ref b] L' Q E := fun J Q E k => by
    obtain ⟨S0, p1, p2, p3⟩ := J.foc_same 0 rfl
    obtain ⟨S2, p4, p5⟩ := p3 2 b (.lw w) (by omega) rfl
    have p4' : IsW rtL _ b w S2 := p4
    exact step_s (n := m) (by omega) p1 hw p4' p5 fun L2 s hh2 fr2 sf sq => k L2 s (p2 L2 S0 hh2 fr2 Grow.refl) sf sq
  have pickO : ∀ {L' : LHp}, Holds G L' (H3 h a b w w) → ∀ {Q : QL} {E : XL}, (∀ L2 s, Holds G L2 (H3 h a b w w) → s.fine → (∀ i k, s ≠ Stp.ask i k) → Q s.enc L2) → cwk G (m) .l_odd [.ref h, .ref b] L' Q E := fun J Q E k => by
    obtain ⟨S0, p1, p2, p3⟩ := J.foc_same 0 rfl
    obtain ⟨S2, p4, p5⟩ := p3 2 b (.lw w) (by omega) rfl
    have p4' : IsW rtL _ b w S2 := p4
    exact odd_s (n := m) (by omega) p1 hw p4' fun L2 s hh2 fr2 sf sq => k L2 s (p2 L2 S0 hh2 fr2 Grow.refl) sf sq
  simp only [w_seq, w_asg, w_drop, w_ret, w_next, w_if, w_nm, w_var, w_c, w_bin, w_test, w_call, w_cons, w_nil, w_mt, w_tup, w_lst, w_newF, w_newT, w_cb, w_fld, w_notT, w_andT, w_orT, brB_bl, brS_t, brS_f, brT_t, brT_f, startL_def, List.length_cons, List.length_nil, List.map_cons, List.map_nil, List.replicate, List.cons_append, List.nil_append, List.set_cons_zero, List.set_cons_succ, List.getElem?_cons_zero, List.getElem?_cons_succ, true_and, onS_some, Bool.not_true, Bool.not_false, bne_ff, bne_self_eq_false, decide_true, decide_false]
  refine pick J fun L1 s1 J1 f1 n1 => ?_
  refine pick J1 fun L2 s2 J2 f2 n2 => ?_
  refine pickO J2 fun L3 s3 J3 f3 n3 => ?_
  refine ⟨sz (show 3 ≤ 100000 by decide), ?_⟩
  obtain ⟨S0, q1, q2, _⟩ := J3.foc_same 0 rfl
  refine next_s (m := m) (by omega) (by omega) (by omega) q1 fun L4 j j0 j1 hh4 f4 => ?_
  have J4 := q2 L4 S0 hh4 f4 Grow.refl
  obtain ⟨s, sf, sq, es⟩ : ∃ s : Stp, s.fine ∧ (∀ i k, s ≠ .ask i k) ∧ ∀ L Q, lIx (.lst [s1.enc, s2.enc, s3.enc]) (.int j) L Q = Q s.enc L := by
    rcases (show j = 0 ∨ j = 1 ∨ j = 2 by omega) with rfl | rfl | rfl
    · exact ⟨s1, f1, n1, fun L Q => by rw [ix_l, atI_0]; rfl⟩
    · exact ⟨s2, f2, n2, fun L Q => by rw [ix_l, atI_1]; rfl⟩
    · exact ⟨s3, f3, n3, fun L Q => by rw [ix_l, atI_2]; rfl⟩
  rw [es]
  obtain ⟨S4, y1⟩ := J4.at (i := 2) (a := b) (o := .lw w) rfl
  have y1' : IsW rtL L4 b w S4 := y1
  refine word_s (n := m) (by omega) sq hw y1' ?_
  have done : ∀ L' o7 o8, Holds G L' (H3 h a b (w.stp s) (w.stp s)) → dn [o0, some (.ref h), some (.ref a), some (.ref b), o4, some s.enc, some (w.due s), o7, o8] L' := fun L' o7 o8 J' => k L' _ _ _ _ _ J' (stp_ok hw)
  cases e : w.chk s with
  | none =>
    have e0 : w.word s = "" := by simp only [Wd.word, e]
    have e1 : w.due s = w.tells s := by simp only [Wd.due, e]
    have e2 : w.stp s = w.app s := by simp only [Wd.stp, e]
    obtain ⟨S5, z1, z2, _⟩ := J4.foc 2 (a := b) (o := .lw w) rfl
    have z1' : IsW rtL L4 b w S5 := z1
    rw [e0]
    simp only [o_eq_s, decide_true, bne_ff, brB_bl, brS_t]
    rw [w_asg]
    simp only [w_asg, w_drop, w_ret, w_next, w_if, w_nm, w_var, w_c, w_bin, w_test, w_call, w_cons, w_nil, w_mt, w_tup, w_lst, w_newF, w_newT, w_cb, w_fld, w_notT, w_andT, w_orT, brB_bl, brS_t, brS_f, brT_t, brT_f, startL_def, List.length_cons, List.length_nil, List.map_cons, List.map_nil, List.replicate, List.cons_append, List.nil_append, List.set_cons_zero, List.set_cons_succ, List.getElem?_cons_zero, List.getElem?_cons_succ, true_and, onS_some, Bool.not_true, Bool.not_false, bne_ff, bne_self_eq_false, decide_true, decide_false]
    refine change_s (n := m) (by omega) sq e hw z1' fun L5 S' g1 g2 g3 _ => ?_
    have J5 := z2 L5 (.lw (w.app s)) S' g1 g2 g3
    rw [← e1]
    refine fin01 (m := m) (w := w) gd (by omega) hw sf sq (by rw [e2]; exact J5) done
  | some x =>
    have e0 : w.word s = x.name := by simp only [Wd.word, e]
    have e1 : w.due s = .str x.name := by simp only [Wd.due, e]
    have e2 : w.stp s = w := by simp only [Wd.stp, e]
    have ne : ¬ x.name = "" := by cases x <;> decide +kernel
    rw [e0]
    simp only [o_eq_s, ne, decide_false, bne_ff, brB_bl, brS_f, w_next]
    rw [← e1]
    exact fin01 (m := m) (w := w) gd (by omega) hw sf sq (by rw [e2]; exact J4) done
theorem law_k01_s {is : List Int} (gd : Gd10 G) (hm : 25 ≤ m) (h : ∀ L', Q (.bl true) L') : cwk G m .law_k01 [.wl (is.map LV.int)] L Q E := by
  obtain ⟨m, rfl⟩ := Nat.exists_eq_add_of_le' hm
  show bodyC 1 9 (B_law_k01 G (cwk G (m + 24))) _ _ _ _
  refine ⟨rfl, ?_⟩
  unfold B_law_k01
  simp only [w_seq, w_asg, w_drop, w_ret, w_next, w_if, w_nm, w_var, w_c, w_bin, w_test, w_call, w_cons, w_nil, w_mt, w_tup, w_lst, w_newF, w_newT, w_cb, w_fld, w_notT, w_andT, w_orT, brB_bl, brS_t, brS_f, brT_t, brT_f, startL_def, List.length_cons, List.length_nil, List.map_cons, List.map_nil, List.replicate, List.cons_append, List.nil_append, List.set_cons_zero, List.set_cons_succ, List.getElem?_cons_zero, List.getElem?_cons_succ, true_and, onS_some, Bool.not_true, Bool.not_false, bne_ff, bne_self_eq_false, decide_true, decide_false]
  refine mix_s (by omega) fun L1 hd Sh hh fr1 nw1 => ?_
  have J1 : Holds G L1 [(hd, .hh)] := Holds.snoc (M := []) (S := Sh) (Holds.nil (L := L)) hh fr1 nw1
  simp only [w_seq, w_asg, w_drop, w_ret, w_next, w_if, w_nm, w_var, w_c, w_bin, w_test, w_call, w_cons, w_nil, w_mt, w_tup, w_lst, w_newF, w_newT, w_cb, w_fld, w_notT, w_andT, w_orT, brB_bl, brS_t, brS_f, brT_t, brT_f, startL_def, List.length_cons, List.length_nil, List.map_cons, List.map_nil, List.replicate, List.cons_append, List.nil_append, List.set_cons_zero, List.set_cons_succ, List.getElem?_cons_zero, List.getElem?_cons_succ, true_and, onS_some, Bool.not_true, Bool.not_false, bne_ff, bne_self_eq_false, decide_true, decide_false, w_make]
  intro aw haw
  refine winit_s (n := m + 24) (by omega) lup_same fun L2 Sw hW fr3 gr3 => ⟨rfl, ?_⟩
  have f3 : Frame [] L1 L2 := fun x h1 h2 => by
    have xa : x ≠ aw := fun e => h2 (by rw [e]; exact haw)
    rw [fr3 x (by simp [xa]) (by rw [lup_ne xa]; exact h2), lup_ne xa]
  have n3 : ∀ x ∈ Sw, L1 x = none := fun x hx => by
    by_cases xa : x = aw
    · rw [xa]; exact haw
    · rcases gr3 x hx with z | z
      · exact absurd (List.mem_singleton.mp z) xa
      · rw [lup_ne xa] at z; exact z
  have J2 : Holds G L2 [(hd, .hh), (aw, .wd .new)] := J1.snoc (a := aw) (o := .wd .new) (S := Sw) hW f3 n3
  refine l_world_s (n := m + 24) (by omega) fun L3 b Sb hb fb nb => ?_
  have J3 : Holds G L3 (H3 hd aw b .new .new) := J2.snoc (a := b) (o := .lw .new) (S := Sb) hb fb nb
  simp only [w_seq, w_asg, w_drop, w_ret, w_next, w_if, w_nm, w_var, w_c, w_bin, w_test, w_call, w_cons, w_nil, w_mt, w_tup, w_lst, w_newF, w_newT, w_cb, w_fld, w_notT, w_andT, w_orT, brB_bl, brS_t, brS_f, brT_t, brT_f, startL_def, List.length_cons, List.length_nil, List.map_cons, List.map_nil, List.replicate, List.cons_append, List.nil_append, List.set_cons_zero, List.set_cons_succ, List.getElem?_cons_zero, List.getElem?_cons_succ, true_and, onS_some, Bool.not_true, Bool.not_false, bne_ff, bne_self_eq_false, decide_true, decide_false, w_for, w_irng]
  obtain ⟨S0, q1, q2, _⟩ := J3.foc_same 0 rfl
  refine next_s (m := m + 24) (by omega) (by omega) (by omega) q1 fun L4 r r0 r1 hh4 f4 => ?_
  have J4 := q2 L4 S0 hh4 f4 Grow.refl
  refine ⟨by omega, by omega, ?_⟩
  refine forGo_ind (fun ls σ L' => ∃ w o4 o5 o6 o7 o8, σ = [some (.wl (is.map LV.int)), some (.ref hd), some (.ref aw), some (.ref b), o4, o5, o6, o7, o8] ∧ Holds G L' (H3 hd aw b w w) ∧ Wok w) ⟨.new, _, _, _, _, _, rfl, J4, Wok.new⟩ ?_ ?_
  · rintro σ L' ⟨w, o4, o5, o6, o7, o8, rfl, J, hw⟩
    simp only [w_seq, w_asg, w_drop, w_ret, w_next, w_if, w_nm, w_var, w_c, w_bin, w_test, w_call, w_cons, w_nil, w_mt, w_tup, w_lst, w_newF, w_newT, w_cb, w_fld, w_notT, w_andT, w_orT, brB_bl, brS_t, brS_f, brT_t, brT_f, startL_def, List.length_cons, List.length_nil, List.map_cons, List.map_nil, List.replicate, List.cons_append, List.nil_append, List.set_cons_zero, List.set_cons_succ, List.getElem?_cons_zero, List.getElem?_cons_succ, true_and, onS_some, Bool.not_true, Bool.not_false, bne_ff, bne_self_eq_false, decide_true, decide_false]
    exact is01_s (m := m + 24) gd (by omega) hw J fun L' _ => retS (h _)
  · rintro l ls σ L' N ⟨w, o4, o5, o6, o7, o8, rfl, J, hw⟩ hN
    exact body01 (m := m + 24) gd (by omega) hw J fun L' w' o5 o6 o7 o8 J' hw' => hN _ _ ⟨w', _, _, _, _, _, rfl, J', hw'⟩ trivial
end LK
set_option Elab.async false
set_option linter.all false
set_option maxRecDepth 100000
set_option maxHeartbeats 4000000
/-! The derivations of k01's defs, printed by gend.py. -/
namespace LK
open PySem PySem.Spec PyProof.Rows L2
namespace K01
def top (i : Nat) : Stmt := PySem.Challenge.pw_lookcache_k01_kinds_looked_up.main.body.getD i (.Pass ⟨0, 0, 0, 0⟩)
section
variable {P : Program} {w : World} {K : PySem.W.Frag} {mg : Str → Option Value} {base : Heap} {k : Nat} {G : GA} {cw : CW}

theorem fnk_of {x qual : Str} {params : Arguments} {body : List Stmt} {scope : Scope} {f : Addr} {fd : FuncData} {N ps : List Str} {k : Nat} {B : LTS} (F : FunD K x qual params body scope [] [] f fd) (S : FnScope N ps scope)
    (h : ∀ (cdv : Value) (A : Around) (outer : List Env) (s : Shared) (H : Hp) (E : XK), Room k (A.deeper (envOfC qual scope s.heap.objs.size f cdv)) → LSs (cxOf (L2N.CX P w) P w K mg base N qual scope f cdv A outer s H E) body B) :
    FnOk P w K mg base (L2N.CX P w) (k + 1) f fd ps (spL K ps.length (bodyC ps.length N.length B)) := F.ok S (fun vs H Q E hs => hs.1) fun cdv A outer s H vs Q E hr hs => by
  obtain ⟨hl, ls, L, Ql, El, rh, ra, sv, sx, hl2, q⟩ := hs
  refine ⟨_, h cdv A outer s H E hr _ (L2N.takes_of rfl rfl rfl rfl), startL N.length ls, L, { nx := fun _ L' => retA Ql .non L', rt := retA Ql, bk := fun _ _ => False, ct := fun _ _ => False, ex := exA El }, rh, RS.start ra, ⟨fun σl L' σ H' r y _ q => ?_, ret_sim sv, fun _ _ _ _ _ _ _ z => z.elim, fun _ _ _ _ _ _ _ z => z.elim, ex_sim sx⟩, q⟩
  exact ret_sim sv .non L' .non H' r y rfl q
theorem fnk_ofC {x qual : Str} {params : Arguments} {body : List Stmt} {scope : Scope} {f : Addr} {fd : FuncData} {N ps : List Str} {k : Nat} {B : LTS} {dl : Str × Option Str} (F : FunD K x qual params body scope [] [] f fd) (hf : f = He.fAd K dl) (S : FnScope N ps scope)
    (h : ∀ (A : Around) (outer : List Env) (s : Shared) (H : Hp) (E : XK), Room k (A.deeper (envOfC qual scope s.heap.objs.size f (.ref (He.codeOf K dl)))) → LSs (cxOf (L2N.CX P w) P w K mg base N qual scope f (.ref (He.codeOf K dl)) A outer s H E) body B) :
    FnOk P w K mg base (L2N.CX P w) (k + 1) f fd ps (spL K ps.length (bodyC ps.length N.length B)) := by
  obtain ⟨oc, od, dV, kV, doc, pm, an, cdv, ct, osl, rfl, lk, hcd, _, _⟩ := F.ex
  obtain ⟨c, rfl⟩ := He.codeIn_ref hcd
  subst hf
  have ec : He.codeOf K dl = c := He.codeOf_eq lk rfl
  rw [ec] at h
  refine fn_of lk hcd S (fun vs H Q E hs => hs.1) fun A outer s H vs Q E hr hs => ?_
  obtain ⟨hl, ls, L, Ql, El, rh, ra, sv, sx, hl2, q⟩ := hs
  refine ⟨_, h A outer s H E hr _ (L2N.takes_of rfl rfl rfl rfl), startL N.length ls, L, { nx := fun _ L' => retA Ql .non L', rt := retA Ql, bk := fun _ _ => False, ct := fun _ _ => False, ex := exA El }, rh, RS.start ra, ⟨fun σl L' σ H' r y _ q => ?_, ret_sim sv, fun _ _ _ _ _ _ _ z => z.elim, fun _ _ _ _ _ _ _ z => z.elim, ex_sim sx⟩, q⟩
  exact ret_sim sv .non L' .non H' r y rfl q
abbrev s_need_deed : Stmt := top 16
theorem sc_need_deed : FnScope ["deed"] ["deed"] (defScope s_need_deed) := ⟨rfl, rfl, rfl, by decide +kernel, rfl, by decide +kernel, by decide +kernel⟩
theorem d_need_deed {f : Addr} {fd : FuncData} (F : FunD K "need_deed" "need_deed" (defArgs s_need_deed) (defBody s_need_deed) (defScope s_need_deed) [] [] f fd) (g_LETTERS : ∃ t, mg ("LETTERS" : Str) = some (.str "abcdef" t)) (n_len : mg ("len" : Str) = none) (x_NoDeed : ExF K mg ("NoDeed" : Str) G.eNoDeed) : FnL P w K mg base (k + 2) f 1 (bodyC 1 1 (B_need_deed G cw)) := by
  refine fnl_of F sc_need_deed (F.bindsN fun _ _ _ _ _ _ us hl => match us, hl with | [_], _ => rfl) fun cdv A outer s H E hr => ?_
  have nd : (["deed"] : List Str).Nodup := sc_need_deed.nd
  have hu := hr.units
  have hu5 : (A.deeper (envOfC "need_deed" (defScope s_need_deed) s.heap.objs.size f cdv)).units + 65 < cLine := by have := hr.un; omega
  have hp := passN (X := cxOf (L2N.CX P w) P w K mg base ["deed"] "need_deed" (defScope s_need_deed) f cdv A outer s H E) rfl
  have hr0 := hr.mono (Nat.le_succ k)
  have hr1 := hr
  exact (lss_one (ls_if (lt_w (lw_or (lt_cmp (o_ne hu) (le_cb c_len n_len (la_cons (le_var 0) la_nil)) le_int) (lw_or1 (lt_cmp (o_notin hu5) (le_var 0) (le_gstr g_LETTERS))))) (lss_one (ls_raise rfl x_NoDeed.q x_NoDeed.g x_NoDeed.k x_NoDeed.r)) lss_nil))
abbrev s_World_init : Stmt := inClass (top 17) 0
theorem sc_World_init : FnScope ["self"] ["self"] (defScope s_World_init) := ⟨rfl, rfl, rfl, by decide +kernel, rfl, by decide +kernel, by decide +kernel⟩
theorem d_World_init {f : Addr} {fd : FuncData} (F : FunD K "__init__" "World.__init__" (defArgs s_World_init) (defBody s_World_init) (defScope s_World_init) [] [] f fd) (a_elders : L2.NoAttr K G.cW ("elders" : Str)) (a_own : L2.NoAttr K G.cW ("own" : Str)) (c_W : L2.Cls K G.cW) : FnL P w K mg base (k + 2) f 1 (bodyC 1 1 (B_World_init G cw)) := by
  refine fnl_of F sc_World_init (F.bindsN fun _ _ _ _ _ _ us hl => match us, hl with | [_], _ => rfl) fun cdv A outer s H E hr => ?_
  have nd : (["self"] : List Str).Nodup := sc_World_init.nd
  have hu := hr.units
  have hu5 : (A.deeper (envOfC "World.__init__" (defScope s_World_init) s.heap.objs.size f cdv)).units + 65 < cLine := by have := hr.un; omega
  have hp := passN (X := cxOf (L2N.CX P w) P w K mg base ["self"] "World.__init__" (defScope s_World_init) f cdv A outer s H E) rfl
  have hr0 := hr.mono (Nat.le_succ k)
  have hr1 := hr
  exact (lss_cons (ls_fld c_W a_elders (le_var 0) (le_lst (fr := false) la_nil)) (lss_one (ls_fld c_W a_own (le_var 0) (le_lst (fr := false) la_nil))))
abbrev s_World_need_kind : Stmt := inClass (top 17) 1
theorem sc_World_need_kind : FnScope ["self", "kind"] ["self", "kind"] (defScope s_World_need_kind) := ⟨rfl, rfl, rfl, by decide +kernel, rfl, by decide +kernel, by decide +kernel⟩
theorem d_World_need_kind {f : Addr} {fd : FuncData} (F : FunD K "need_kind" "World.need_kind" (defArgs s_World_need_kind) (defBody s_World_need_kind) (defScope s_World_need_kind) [] [] f fd) (a_elders : L2.NoAttr K G.cW ("elders" : Str)) (c_W : L2.Cls K G.cW) (n_len : mg ("len" : Str) = none) (x_NoKind : ExF K mg ("NoKind" : Str) G.eNoKind) : FnL P w K mg base (k + 2) f 2 (bodyC 2 2 (B_World_need_kind G cw)) := by
  refine fnl_of F sc_World_need_kind (F.bindsN fun _ _ _ _ _ _ us hl => match us, hl with | [_, _], _ => rfl) fun cdv A outer s H E hr => ?_
  have nd : (["self", "kind"] : List Str).Nodup := sc_World_need_kind.nd
  have hu := hr.units
  have hu5 : (A.deeper (envOfC "World.need_kind" (defScope s_World_need_kind) s.heap.objs.size f cdv)).units + 65 < cLine := by have := hr.un; omega
  have hp := passN (X := cxOf (L2N.CX P w) P w K mg base ["self", "kind"] "World.need_kind" (defScope s_World_need_kind) f cdv A outer s H E) rfl
  have hr0 := hr.mono (Nat.le_succ k)
  have hr1 := hr
  exact (lss_one (ls_if (lt_not (lt_chain o_le o_lt le_int (le_var 1) (le_cb c_len n_len (la_cons (le_fld c_W a_elders (le_var 0)) la_nil)))) (lss_one (ls_raise rfl x_NoKind.q x_NoKind.g x_NoKind.k x_NoKind.r)) lss_nil))
abbrev s_World_need_elder : Stmt := inClass (top 17) 2
theorem sc_World_need_elder : FnScope ["self", "elder"] ["self", "elder"] (defScope s_World_need_elder) := ⟨rfl, rfl, rfl, by decide +kernel, rfl, by decide +kernel, by decide +kernel⟩
theorem d_World_need_elder {f : Addr} {fd : FuncData} (F : FunD K "need_elder" "World.need_elder" (defArgs s_World_need_elder) (defBody s_World_need_elder) (defScope s_World_need_elder) [] [] f fd) (c_W : L2.Cls K G.cW) (f_World_need_kind : MFn P w K mg base k G.cW ("need_kind" : Str) 1 (cw .World_need_kind)) : FnL P w K mg base (k + 2) f 2 (bodyC 2 2 (B_World_need_elder G cw)) := by
  refine fnl_of F sc_World_need_elder (F.bindsN fun _ _ _ _ _ _ us hl => match us, hl with | [_, _], _ => rfl) fun cdv A outer s H E hr => ?_
  have nd : (["self", "elder"] : List Str).Nodup := sc_World_need_elder.nd
  have hu := hr.units
  have hu5 : (A.deeper (envOfC "World.need_elder" (defScope s_World_need_elder) s.heap.objs.size f cdv)).units + 65 < cLine := by have := hr.un; omega
  have hp := passN (X := cxOf (L2N.CX P w) P w K mg base ["self", "elder"] "World.need_elder" (defScope s_World_need_elder) f cdv A outer s H E) rfl
  have hr0 := hr.mono (Nat.le_succ k)
  have hr1 := hr
  exact (lss_one (ls_if (lt_cmp o_isnot (le_var 1) le_non) (lss_one (ls_expr (le_meth f_World_need_kind hr0 (le_var 0) (la_cons (le_var 1) la_nil)))) lss_nil))
abbrev s_World_add : Stmt := inClass (top 17) 3
theorem sc_World_add : FnScope ["self", "elder"] ["self", "elder"] (defScope s_World_add) := ⟨rfl, rfl, rfl, by decide +kernel, rfl, by decide +kernel, by decide +kernel⟩
theorem d_World_add {f : Addr} {fd : FuncData} (F : FunD K "add" "World.add" (defArgs s_World_add) (defBody s_World_add) (defScope s_World_add) [] [] f fd) (a_elders : L2.NoAttr K G.cW ("elders" : Str)) (a_own : L2.NoAttr K G.cW ("own" : Str)) (c_W : L2.Cls K G.cW) (f_World_need_elder : MFn P w K mg base k G.cW ("need_elder" : Str) 1 (cw .World_need_elder)) (g_MOST_KINDS : ∃ t, mg ("MOST_KINDS" : Str) = some (.int 12 t)) (n_len : mg ("len" : Str) = none) (x_TooMany : ExF K mg ("TooMany" : Str) G.eTooMany) : FnL P w K mg base (k + 2) f 2 (bodyC 2 2 (B_World_add G cw)) := by
  refine fnl_of F sc_World_add (F.bindsN fun _ _ _ _ _ _ us hl => match us, hl with | [_, _], _ => rfl) fun cdv A outer s H E hr => ?_
  have nd : (["self", "elder"] : List Str).Nodup := sc_World_add.nd
  have hu := hr.units
  have hu5 : (A.deeper (envOfC "World.add" (defScope s_World_add) s.heap.objs.size f cdv)).units + 65 < cLine := by have := hr.un; omega
  have hp := passN (X := cxOf (L2N.CX P w) P w K mg base ["self", "elder"] "World.add" (defScope s_World_add) f cdv A outer s H E) rfl
  have hr0 := hr.mono (Nat.le_succ k)
  have hr1 := hr
  exact (lss_cons (ls_if (lt_cmp o_ge (le_cb c_len n_len (la_cons (le_fld c_W a_elders (le_var 0)) la_nil)) (le_gint g_MOST_KINDS)) (lss_one (ls_raise rfl x_TooMany.q x_TooMany.g x_TooMany.k x_TooMany.r)) lss_nil) (lss_cons (ls_expr (le_meth f_World_need_elder hr0 (le_var 0) (la_cons (le_var 1) la_nil))) (lss_cons (ls_expr (le_mt m_append PySem.F.plainAttrs_list PySem.F.slot_list_append PySem.F.type_list_append (le_fld c_W a_elders (le_var 0)) (la_cons (le_var 1) la_nil))) (lss_cons (ls_expr (le_mt m_append PySem.F.plainAttrs_list PySem.F.slot_list_append PySem.F.type_list_append (le_fld c_W a_own (le_var 0)) (la_cons le_dk la_nil))) (lss_one (ls_ret (le_bin o_sub (le_cb c_len n_len (la_cons (le_fld c_W a_elders (le_var 0)) la_nil)) le_int)))))))
abbrev s_World_put : Stmt := inClass (top 17) 4
theorem sc_World_put : FnScope ["self", "kind", "deed", "body"] ["self", "kind", "deed", "body"] (defScope s_World_put) := ⟨rfl, rfl, rfl, by decide +kernel, rfl, by decide +kernel, by decide +kernel⟩
theorem d_World_put {f : Addr} {fd : FuncData} (F : FunD K "put" "World.put" (defArgs s_World_put) (defBody s_World_put) (defScope s_World_put) [] [] f fd) (a_own : L2.NoAttr K G.cW ("own" : Str)) (c_W : L2.Cls K G.cW) (f_World_need_kind : MFn P w K mg base k G.cW ("need_kind" : Str) 1 (cw .World_need_kind)) (f_need_deed : GFn P w K mg base k ("need_deed" : Str) 1 (cw .need_deed)) (g_MOST_BODY : ∃ t, mg ("MOST_BODY" : Str) = some (.int 99 t)) (x_NoBody : ExF K mg ("NoBody" : Str) G.eNoBody) : FnL P w K mg base (k + 2) f 4 (bodyC 4 4 (B_World_put G cw)) := by
  refine fnl_of F sc_World_put (F.bindsN fun _ _ _ _ _ _ us hl => match us, hl with | [_, _, _, _], _ => rfl) fun cdv A outer s H E hr => ?_
  have nd : (["self", "kind", "deed", "body"] : List Str).Nodup := sc_World_put.nd
  have hu := hr.units
  have hu5 : (A.deeper (envOfC "World.put" (defScope s_World_put) s.heap.objs.size f cdv)).units + 65 < cLine := by have := hr.un; omega
  have hp := passN (X := cxOf (L2N.CX P w) P w K mg base ["self", "kind", "deed", "body"] "World.put" (defScope s_World_put) f cdv A outer s H E) rfl
  have hr0 := hr.mono (Nat.le_succ k)
  have hr1 := hr
  exact (lss_cons (ls_expr (le_meth f_World_need_kind hr0 (le_var 0) (la_cons (le_var 1) la_nil))) (lss_cons (ls_expr (le_call f_need_deed hr0 (la_cons (le_var 2) la_nil))) (lss_cons (ls_if (lt_not (lt_chain o_le o_le le_int (le_var 3) (le_gint g_MOST_BODY))) (lss_one (ls_raise rfl x_NoBody.q x_NoBody.g x_NoBody.k x_NoBody.r)) lss_nil) (lss_one (ls_asg (le_var 3) (lg_sub hu (le_ix hu (le_fld c_W a_own (le_var 0)) (le_var 1)) (le_var 2)))))))
abbrev s_World_drop : Stmt := inClass (top 17) 5
theorem sc_World_drop : FnScope ["self", "kind", "deed"] ["self", "kind", "deed"] (defScope s_World_drop) := ⟨rfl, rfl, rfl, by decide +kernel, rfl, by decide +kernel, by decide +kernel⟩
theorem d_World_drop {f : Addr} {fd : FuncData} (F : FunD K "drop" "World.drop" (defArgs s_World_drop) (defBody s_World_drop) (defScope s_World_drop) [] [] f fd) (a_own : L2.NoAttr K G.cW ("own" : Str)) (c_W : L2.Cls K G.cW) (f_World_need_kind : MFn P w K mg base k G.cW ("need_kind" : Str) 1 (cw .World_need_kind)) (f_need_deed : GFn P w K mg base k ("need_deed" : Str) 1 (cw .need_deed)) (x_NoDeed : ExF K mg ("NoDeed" : Str) G.eNoDeed) : FnL P w K mg base (k + 2) f 3 (bodyC 3 3 (B_World_drop G cw)) := by
  refine fnl_of F sc_World_drop (F.bindsN fun _ _ _ _ _ _ us hl => match us, hl with | [_, _, _], _ => rfl) fun cdv A outer s H E hr => ?_
  have nd : (["self", "kind", "deed"] : List Str).Nodup := sc_World_drop.nd
  have hu := hr.units
  have hu5 : (A.deeper (envOfC "World.drop" (defScope s_World_drop) s.heap.objs.size f cdv)).units + 65 < cLine := by have := hr.un; omega
  have hp := passN (X := cxOf (L2N.CX P w) P w K mg base ["self", "kind", "deed"] "World.drop" (defScope s_World_drop) f cdv A outer s H E) rfl
  have hr0 := hr.mono (Nat.le_succ k)
  have hr1 := hr
  exact (lss_cons (ls_expr (le_meth f_World_need_kind hr0 (le_var 0) (la_cons (le_var 1) la_nil))) (lss_cons (ls_expr (le_call f_need_deed hr0 (la_cons (le_var 2) la_nil))) (lss_cons (ls_if (lt_cmp (o_notin hu5) (le_var 2) (le_ix hu (le_fld c_W a_own (le_var 0)) (le_var 1))) (lss_one (ls_raise rfl x_NoDeed.q x_NoDeed.g x_NoDeed.k x_NoDeed.r)) lss_nil) (lss_one (ls_expr (le_mt m_dpop PySem.F.plainAttrs_dict PySem.F.slot_dict_pop PySem.F.type_dict_pop (le_ix hu (le_fld c_W a_own (le_var 0)) (le_var 1)) (la_cons (le_var 2) la_nil)))))))
abbrev s_World_turn : Stmt := inClass (top 17) 6
theorem sc_World_turn : FnScope ["self", "kind", "elder"] ["self", "kind", "elder"] (defScope s_World_turn) := ⟨rfl, rfl, rfl, by decide +kernel, rfl, by decide +kernel, by decide +kernel⟩
theorem d_World_turn {f : Addr} {fd : FuncData} (F : FunD K "turn" "World.turn" (defArgs s_World_turn) (defBody s_World_turn) (defScope s_World_turn) [] [] f fd) (a_elders : L2.NoAttr K G.cW ("elders" : Str)) (c_W : L2.Cls K G.cW) (f_World_above : MFn P w K mg base k G.cW ("above" : Str) 1 (cw .World_above)) (f_World_need_elder : MFn P w K mg base k G.cW ("need_elder" : Str) 1 (cw .World_need_elder)) (f_World_need_kind : MFn P w K mg base k G.cW ("need_kind" : Str) 1 (cw .World_need_kind)) (x_Ring : ExF K mg ("Ring" : Str) G.eRing) : FnL P w K mg base (k + 2) f 3 (bodyC 3 3 (B_World_turn G cw)) := by
  refine fnl_of F sc_World_turn (F.bindsN fun _ _ _ _ _ _ us hl => match us, hl with | [_, _, _], _ => rfl) fun cdv A outer s H E hr => ?_
  have nd : (["self", "kind", "elder"] : List Str).Nodup := sc_World_turn.nd
  have hu := hr.units
  have hu5 : (A.deeper (envOfC "World.turn" (defScope s_World_turn) s.heap.objs.size f cdv)).units + 65 < cLine := by have := hr.un; omega
  have hp := passN (X := cxOf (L2N.CX P w) P w K mg base ["self", "kind", "elder"] "World.turn" (defScope s_World_turn) f cdv A outer s H E) rfl
  have hr0 := hr.mono (Nat.le_succ k)
  have hr1 := hr
  exact (lss_cons (ls_expr (le_meth f_World_need_kind hr0 (le_var 0) (la_cons (le_var 1) la_nil))) (lss_cons (ls_expr (le_meth f_World_need_elder hr0 (le_var 0) (la_cons (le_var 2) la_nil))) (lss_cons (ls_if (lt_w (lw_and (lt_cmp o_isnot (le_var 2) le_non) (lw_and1 (lt_cmp (o_in hu5) (le_var 1) (le_meth f_World_above hr0 (le_var 0) (la_cons (le_var 2) la_nil)))))) (lss_one (ls_raise rfl x_Ring.q x_Ring.g x_Ring.k x_Ring.r)) lss_nil) (lss_one (ls_asg (le_var 2) (lg_sub hu (le_fld c_W a_elders (le_var 0)) (le_var 1)))))))
abbrev s_World_above : Stmt := inClass (top 17) 7
theorem sc_World_above : FnScope ["self", "kind", "found"] ["self", "kind"] (defScope s_World_above) := ⟨rfl, rfl, rfl, by decide +kernel, rfl, by decide +kernel, by decide +kernel⟩
theorem d_World_above {f : Addr} {fd : FuncData} (F : FunD K "above" "World.above" (defArgs s_World_above) (defBody s_World_above) (defScope s_World_above) [] [] f fd) (a_elders : L2.NoAttr K G.cW ("elders" : Str)) (c_W : L2.Cls K G.cW) : FnL P w K mg base (k + 2) f 2 (bodyC 2 3 (B_World_above G cw)) := by
  refine fnl_of F sc_World_above (F.bindsN fun _ _ _ _ _ _ us hl => match us, hl with | [_, _], _ => rfl) fun cdv A outer s H E hr => ?_
  have nd : (["self", "kind", "found"] : List Str).Nodup := sc_World_above.nd
  have hu := hr.units
  have hu5 : (A.deeper (envOfC "World.above" (defScope s_World_above) s.heap.objs.size f cdv)).units + 65 < cLine := by have := hr.un; omega
  have hp := passN (X := cxOf (L2N.CX P w) P w K mg base ["self", "kind", "found"] "World.above" (defScope s_World_above) f cdv A outer s H E) rfl
  have hr0 := hr.mono (Nat.le_succ k)
  have hr1 := hr
  exact (lss_cons (ls_set 2 nd (le_lst (fr := false) la_nil)) (lss_cons (ls_while hp (lt_cmp o_isnot (le_var 1) le_non) (lss_cons (ls_expr (le_mt m_append PySem.F.plainAttrs_list PySem.F.slot_list_append PySem.F.type_list_append (le_var 2) (la_cons (le_var 1) la_nil))) (lss_one (ls_set 1 nd (le_ix hu (le_fld c_W a_elders (le_var 0)) (le_var 1)))))) (lss_one (ls_ret (le_var 2)))))
abbrev s_World_up : Stmt := inClass (top 17) 8
theorem sc_World_up : FnScope ["self", "kind"] ["self", "kind"] (defScope s_World_up) := ⟨rfl, rfl, rfl, by decide +kernel, rfl, by decide +kernel, by decide +kernel⟩
theorem d_World_up {f : Addr} {fd : FuncData} (F : FunD K "up" "World.up" (defArgs s_World_up) (defBody s_World_up) (defScope s_World_up) [] [] f fd) (c_W : L2.Cls K G.cW) (f_World_above : MFn P w K mg base k G.cW ("above" : Str) 1 (cw .World_above)) (f_World_need_kind : MFn P w K mg base k G.cW ("need_kind" : Str) 1 (cw .World_need_kind)) : FnL P w K mg base (k + 2) f 2 (bodyC 2 2 (B_World_up G cw)) := by
  refine fnl_of F sc_World_up (F.bindsN fun _ _ _ _ _ _ us hl => match us, hl with | [_, _], _ => rfl) fun cdv A outer s H E hr => ?_
  have nd : (["self", "kind"] : List Str).Nodup := sc_World_up.nd
  have hu := hr.units
  have hu5 : (A.deeper (envOfC "World.up" (defScope s_World_up) s.heap.objs.size f cdv)).units + 65 < cLine := by have := hr.un; omega
  have hp := passN (X := cxOf (L2N.CX P w) P w K mg base ["self", "kind"] "World.up" (defScope s_World_up) f cdv A outer s H E) rfl
  have hr0 := hr.mono (Nat.le_succ k)
  have hr1 := hr
  exact (lss_cons (ls_expr (le_meth f_World_need_kind hr0 (le_var 0) (la_cons (le_var 1) la_nil))) (lss_one (ls_ret (le_meth f_World_above hr0 (le_var 0) (la_cons (le_var 1) la_nil)))))
abbrev s_World_found_by : Stmt := inClass (top 17) 9
theorem sc_World_found_by : FnScope ["self", "kind", "deed", "one"] ["self", "kind", "deed"] (defScope s_World_found_by) := ⟨rfl, rfl, rfl, by decide +kernel, rfl, by decide +kernel, by decide +kernel⟩
theorem d_World_found_by {f : Addr} {fd : FuncData} (F : FunD K "found_by" "World.found_by" (defArgs s_World_found_by) (defBody s_World_found_by) (defScope s_World_found_by) [] [] f fd) (a_own : L2.NoAttr K G.cW ("own" : Str)) (c_W : L2.Cls K G.cW) (f_World_above : MFn P w K mg base k G.cW ("above" : Str) 1 (cw .World_above)) : FnL P w K mg base (k + 2) f 3 (bodyC 3 4 (B_World_found_by G cw)) := by
  refine fnl_of F sc_World_found_by (F.bindsN fun _ _ _ _ _ _ us hl => match us, hl with | [_, _, _], _ => rfl) fun cdv A outer s H E hr => ?_
  have nd : (["self", "kind", "deed", "one"] : List Str).Nodup := sc_World_found_by.nd
  have hu := hr.units
  have hu5 : (A.deeper (envOfC "World.found_by" (defScope s_World_found_by) s.heap.objs.size f cdv)).units + 65 < cLine := by have := hr.un; omega
  have hp := passN (X := cxOf (L2N.CX P w) P w K mg base ["self", "kind", "deed", "one"] "World.found_by" (defScope s_World_found_by) f cdv A outer s H E) rfl
  have hr0 := hr.mono (Nat.le_succ k)
  have hr1 := hr
  exact (lss_cons (ls_for hp rfl (li_lst (le_meth f_World_above hr0 (le_var 0) (la_cons (le_var 1) la_nil))) (lg_name 3 nd) (lss_one (ls_if (lt_cmp (o_in hu5) (le_var 2) (le_ix hu (le_fld c_W a_own (le_var 0)) (le_var 3))) (lss_one (ls_ret (le_tup (la_cons (le_var 3) (la_cons (le_ix hu (le_ix hu (le_fld c_W a_own (le_var 0)) (le_var 3)) (le_var 2)) la_nil))))) lss_nil))) (lss_one (ls_ret le_non)))
abbrev s_World_find : Stmt := inClass (top 17) 10
theorem sc_World_find : FnScope ["self", "kind", "deed"] ["self", "kind", "deed"] (defScope s_World_find) := ⟨rfl, rfl, rfl, by decide +kernel, rfl, by decide +kernel, by decide +kernel⟩
theorem d_World_find {f : Addr} {fd : FuncData} (F : FunD K "find" "World.find" (defArgs s_World_find) (defBody s_World_find) (defScope s_World_find) [] [] f fd) (c_W : L2.Cls K G.cW) (f_World_found_by : MFn P w K mg base k G.cW ("found_by" : Str) 2 (cw .World_found_by)) (f_World_need_kind : MFn P w K mg base k G.cW ("need_kind" : Str) 1 (cw .World_need_kind)) (f_need_deed : GFn P w K mg base k ("need_deed" : Str) 1 (cw .need_deed)) : FnL P w K mg base (k + 2) f 3 (bodyC 3 3 (B_World_find G cw)) := by
  refine fnl_of F sc_World_find (F.bindsN fun _ _ _ _ _ _ us hl => match us, hl with | [_, _, _], _ => rfl) fun cdv A outer s H E hr => ?_
  have nd : (["self", "kind", "deed"] : List Str).Nodup := sc_World_find.nd
  have hu := hr.units
  have hu5 : (A.deeper (envOfC "World.find" (defScope s_World_find) s.heap.objs.size f cdv)).units + 65 < cLine := by have := hr.un; omega
  have hp := passN (X := cxOf (L2N.CX P w) P w K mg base ["self", "kind", "deed"] "World.find" (defScope s_World_find) f cdv A outer s H E) rfl
  have hr0 := hr.mono (Nat.le_succ k)
  have hr1 := hr
  exact (lss_cons (ls_expr (le_meth f_World_need_kind hr0 (le_var 0) (la_cons (le_var 1) la_nil))) (lss_cons (ls_expr (le_call f_need_deed hr0 (la_cons (le_var 2) la_nil))) (lss_one (ls_ret (le_meth f_World_found_by hr0 (le_var 0) (la_cons (le_var 1) (la_cons (le_var 2) la_nil)))))))
abbrev s_World_kinds : Stmt := inClass (top 17) 11
theorem sc_World_kinds : FnScope ["self", "found", "kind", "own", "deed"] ["self"] (defScope s_World_kinds) := ⟨rfl, rfl, rfl, by decide +kernel, rfl, by decide +kernel, by decide +kernel⟩
theorem d_World_kinds {f : Addr} {fd : FuncData} (F : FunD K "kinds" "World.kinds" (defArgs s_World_kinds) (defBody s_World_kinds) (defScope s_World_kinds) [] [] f fd) (a_elders : L2.NoAttr K G.cW ("elders" : Str)) (a_own : L2.NoAttr K G.cW ("own" : Str)) (c_W : L2.Cls K G.cW) (n_len : mg ("len" : Str) = none) (n_range : mg ("range" : Str) = none) (n_sorted : mg ("sorted" : Str) = none) : FnL P w K mg base (k + 2) f 1 (bodyC 1 5 (B_World_kinds G cw)) := by
  refine fnl_of F sc_World_kinds (F.bindsN fun _ _ _ _ _ _ us hl => match us, hl with | [_], _ => rfl) fun cdv A outer s H E hr => ?_
  have nd : (["self", "found", "kind", "own", "deed"] : List Str).Nodup := sc_World_kinds.nd
  have hu := hr.units
  have hu5 : (A.deeper (envOfC "World.kinds" (defScope s_World_kinds) s.heap.objs.size f cdv)).units + 65 < cLine := by have := hr.un; omega
  have hp := passN (X := cxOf (L2N.CX P w) P w K mg base ["self", "found", "kind", "own", "deed"] "World.kinds" (defScope s_World_kinds) f cdv A outer s H E) rfl
  have hr0 := hr.mono (Nat.le_succ k)
  have hr1 := hr
  exact (lss_cons (ls_set 1 nd (le_lst (fr := false) la_nil)) (lss_cons (ls_for hp rfl (li_rng (le_cb c_len n_len (la_cons (le_fld c_W a_elders (le_var 0)) la_nil)) n_range) (lg_name 2 nd) (lss_cons (ls_set 3 nd (le_ix hu (le_fld c_W a_own (le_var 0)) (le_var 2))) (lss_one (ls_expr (le_mt m_append PySem.F.plainAttrs_list PySem.F.slot_list_append PySem.F.type_list_append (le_var 1) (la_cons (le_tup (la_cons (le_ix hu (le_fld c_W a_elders (le_var 0)) (le_var 2)) (la_cons (le_lc (own := [(("deed" : Str), 4)]) false rfl nd (li_lst (le_cb (c_sortD (fr := true) rfl) n_sorted (la_cons (le_var 3) la_nil))) (blkOk_by (by kernel_rfl)) (fun _ _ _ _ _ => pg_name (i := 4) nd rfl (Or.inl rfl)) (gow_name (by decide)) (fun _ _ _ _ _ => lts_nil) (fun _ _ _ _ _ => (le_tup (la_cons (le_var 4) (la_cons (le_ix hu (le_var 3) (le_var 4)) la_nil))))) la_nil))) la_nil)))))) (lss_one (ls_ret (le_var 1)))))
abbrev s_l_mix : Stmt := top 19
theorem sc_l_mix : FnScope ["_law_script", "_law_seed", "_law_mixed", "_law_cell"] ["_law_script", "_law_seed"] (defScope s_l_mix) := ⟨rfl, rfl, rfl, by decide +kernel, rfl, by decide +kernel, by decide +kernel⟩
theorem d_l_mix {f : Addr} {fd : FuncData} (F : FunD K "_law_mix" "_law_mix" (defArgs s_l_mix) (defBody s_l_mix) (defScope s_l_mix) [] [] f fd) (n_list : mg ("list" : Str) = none) : FnL P w K mg base (k + 2) f 2 (bodyC 2 4 (B_l_mix G cw)) := by
  refine fnl_of F sc_l_mix (F.bindsN fun _ _ _ _ _ _ us hl => match us, hl with | [_, _], _ => rfl) fun cdv A outer s H E hr => ?_
  have nd : (["_law_script", "_law_seed", "_law_mixed", "_law_cell"] : List Str).Nodup := sc_l_mix.nd
  have hu := hr.units
  have hu5 : (A.deeper (envOfC "_law_mix" (defScope s_l_mix) s.heap.objs.size f cdv)).units + 65 < cLine := by have := hr.un; omega
  have hp := passN (X := cxOf (L2N.CX P w) P w K mg base ["_law_script", "_law_seed", "_law_mixed", "_law_cell"] "_law_mix" (defScope s_l_mix) f cdv A outer s H E) rfl
  have hr0 := hr.mono (Nat.le_succ k)
  have hr1 := hr
  exact (lss_cons (ls_set 2 nd (le_var 1)) (lss_cons (ls_for hp rfl (li_lst (le_var 0)) (lg_name 3 nd) (lss_one (ls_set 2 nd (le_bin o_mod (le_bin o_add (le_bin o_add (le_bin o_mul (le_var 2) le_int) (le_bin o_mod (le_var 3) le_int)) le_int) le_int)))) (lss_one (ls_ret (le_lst (fr := false) (la_cons (le_var 2) (la_cons (le_ct (c_list (fr := false)) n_list (la_cons (le_var 0) la_nil)) (la_cons le_int la_nil))))))))
abbrev s_l_next : Stmt := top 20
theorem sc_l_next : FnScope ["_law_h", "_law_many", "_law_at", "_law_cell"] ["_law_h", "_law_many"] (defScope s_l_next) := ⟨rfl, rfl, rfl, by decide +kernel, rfl, by decide +kernel, by decide +kernel⟩
theorem d_l_next {f : Addr} {fd : FuncData} (F : FunD K "_law_next" "_law_next" (defArgs s_l_next) (defBody s_l_next) (defScope s_l_next) [] [] f fd) (n_len : mg ("len" : Str) = none) (n_max : mg ("max" : Str) = none) : FnL P w K mg base (k + 2) f 2 (bodyC 2 4 (B_l_next G cw)) := by
  refine fnl_of F sc_l_next (F.bindsN fun _ _ _ _ _ _ us hl => match us, hl with | [_, _], _ => rfl) fun cdv A outer s H E hr => ?_
  have nd : (["_law_h", "_law_many", "_law_at", "_law_cell"] : List Str).Nodup := sc_l_next.nd
  have hu := hr.units
  have hu5 : (A.deeper (envOfC "_law_next" (defScope s_l_next) s.heap.objs.size f cdv)).units + 65 < cLine := by have := hr.un; omega
  have hp := passN (X := cxOf (L2N.CX P w) P w K mg base ["_law_h", "_law_many", "_law_at", "_law_cell"] "_law_next" (defScope s_l_next) f cdv A outer s H E) rfl
  have hr0 := hr.mono (Nat.le_succ k)
  have hr1 := hr
  exact (lss_cons (ls_set 2 nd (le_bin o_mod (le_ix hu (le_var 0) le_int) (le_cb (c_max rfl) n_max (la_cons le_int (la_cons (le_cb c_len n_len (la_cons (le_ix hu (le_var 0) le_int) la_nil)) la_nil))))) (lss_cons (ls_set 3 nd (le_if (lt_cmp (o_ne hu) (le_ix hu (le_var 0) le_int) (le_lst (fr := true) la_nil)) (le_ix hu (le_ix hu (le_var 0) le_int) (le_var 2)) le_int)) (lss_cons (ls_if (lt_cmp o_ge (le_var 3) (le_bin o_pow le_int le_int)) (lss_cons (ls_asg (le_bin o_div (le_var 3) (le_var 1)) (lg_sub hu (le_ix hu (le_var 0) le_int) (le_var 2))) (lss_one (ls_ret (le_bin o_mod (le_var 3) (le_var 1))))) lss_nil) (lss_cons (ls_asg (le_bin o_mod (le_bin o_add (le_bin o_add (le_bin o_mul (le_ix hu (le_var 0) le_int) le_int) (le_bin o_mul (le_var 3) le_int)) le_int) le_int) (lg_sub hu (le_var 0) le_int)) (lss_cons (ls_asg (le_bin o_add (le_ix hu (le_var 0) le_int) le_int) (lg_sub hu (le_var 0) le_int)) (lss_one (ls_ret (le_bin o_mod (le_bin o_div (le_ix hu (le_var 0) le_int) le_int) (le_var 1)))))))))
abbrev s_l_alike : Stmt := top 21
theorem sc_l_alike : FnScope ["_law_found", "_law_due", "_law_k"] ["_law_found", "_law_due"] (defScope s_l_alike) := ⟨rfl, rfl, rfl, by decide +kernel, rfl, by decide +kernel, by decide +kernel⟩
theorem d_l_alike {f : Addr} {fd : FuncData} (F : FunD K "_law_alike" "_law_alike" (defArgs s_l_alike) (defBody s_l_alike) (defScope s_l_alike) [] [] f fd) (f_l_alike : GFn P w K mg base k ("_law_alike" : Str) 2 (cw .l_alike)) (n_bool : mg ("bool" : Str) = none) (n_int : mg ("int" : Str) = none) (n_isinstance : mg ("isinstance" : Str) = none) (n_len : mg ("len" : Str) = none) (n_list : mg ("list" : Str) = none) (n_range : mg ("range" : Str) = none) (n_str : mg ("str" : Str) = none) (n_tuple : mg ("tuple" : Str) = none) : FnL P w K mg base (k + 2) f 2 (bodyC 2 3 (B_l_alike G cw)) := by
  refine fnl_of F sc_l_alike (F.bindsN fun _ _ _ _ _ _ us hl => match us, hl with | [_, _], _ => rfl) fun cdv A outer s H E hr => ?_
  have nd : (["_law_found", "_law_due", "_law_k"] : List Str).Nodup := sc_l_alike.nd
  have hu := hr.units
  have hu5 : (A.deeper (envOfC "_law_alike" (defScope s_l_alike) s.heap.objs.size f cdv)).units + 65 < cLine := by have := hr.un; omega
  have hp := passN (X := cxOf (L2N.CX P w) P w K mg base ["_law_found", "_law_due", "_law_k"] "_law_alike" (defScope s_l_alike) f cdv A outer s H E) rfl
  have hr0 := hr.mono (Nat.le_succ k)
  have hr1 := hr
  exact (lss_cons (ls_if (lt_val (le_cb c_isi n_isinstance (la_cons (le_var 1) (la_cons (le_tup (la_cons (le_bty n_tuple) (la_cons (le_bty n_list) la_nil))) la_nil)))) (lss_cons (ls_if (lt_w (lw_or (lt_not (lt_val (le_cb c_isi n_isinstance (la_cons (le_var 0) (la_cons (le_tup (la_cons (le_bty n_tuple) (la_cons (le_bty n_list) la_nil))) la_nil))))) (lw_or1 (lt_cmp (o_ne hu) (le_cb c_isi n_isinstance (la_cons (le_var 0) (la_cons (le_bty n_list) la_nil))) (le_cb c_isi n_isinstance (la_cons (le_var 1) (la_cons (le_bty n_list) la_nil))))))) (lss_one (ls_ret le_bl)) lss_nil) (lss_cons (ls_if (lt_cmp (o_ne hu) (le_cb c_len n_len (la_cons (le_var 0) la_nil)) (le_cb c_len n_len (la_cons (le_var 1) la_nil))) (lss_one (ls_ret le_bl)) lss_nil) (lss_one (ls_ret (le_cmp (o_eq hu) (le_lc (own := [(("_law_k" : Str), 2)]) true rfl nd (li_rng (le_cb c_len n_len (la_cons (le_var 1) la_nil)) n_range) (blkOk_by (by kernel_rfl)) (fun _ _ _ _ _ => pg_name (i := 2) nd rfl (Or.inl rfl)) (gow_name (by decide)) (fun _ _ _ _ _ => (lts_one (lt_not (lt_val (le_call f_l_alike hr0 (la_cons (le_ix hu (le_var 0) (le_var 2)) (la_cons (le_ix hu (le_var 1) (le_var 2)) la_nil))))))) (fun _ _ _ _ _ => (le_var 2))) (le_lst (fr := true) la_nil)))))) lss_nil) (lss_cons (ls_if (lt_cmp o_is (le_var 1) le_non) (lss_one (ls_ret (le_cmp o_is (le_var 0) le_non))) lss_nil) (lss_cons (ls_if (lt_val (le_cb c_isi n_isinstance (la_cons (le_var 1) (la_cons (le_bty n_str) la_nil)))) (lss_one (ls_ret (le_and (le_cb c_isi n_isinstance (la_cons (le_var 0) (la_cons (le_bty n_str) la_nil))) (le_one (le_cmp (o_eq hu) (le_var 0) (le_var 1)))))) lss_nil) (lss_cons (ls_if (lt_w (lw_or (lt_val (le_cb c_isi n_isinstance (la_cons (le_var 1) (la_cons (le_bty n_bool) la_nil)))) (lw_or1 (lt_val (le_cb c_isi n_isinstance (la_cons (le_var 0) (la_cons (le_bty n_bool) la_nil))))))) (lss_one (ls_ret (le_and (le_cb c_isi n_isinstance (la_cons (le_var 1) (la_cons (le_bty n_bool) la_nil))) (le_and (le_cb c_isi n_isinstance (la_cons (le_var 0) (la_cons (le_bty n_bool) la_nil))) (le_one (le_cmp (o_eq hu) (le_var 0) (le_var 1))))))) lss_nil) (lss_one (ls_ret (le_and (le_cb c_isi n_isinstance (la_cons (le_var 0) (la_cons (le_bty n_int) la_nil))) (le_one (le_cmp (o_eq hu) (le_var 0) (le_var 1))))))))))
abbrev s_l_world : Stmt := top 22
theorem sc_l_world : FnScope [] [] (defScope s_l_world) := ⟨rfl, rfl, rfl, by decide +kernel, rfl, by decide +kernel, by decide +kernel⟩
theorem d_l_world {f : Addr} {fd : FuncData} (F : FunD K "_law_world" "_law_world" (defArgs s_l_world) (defBody s_l_world) (defScope s_l_world) [] [] f fd)  : FnL P w K mg base (k + 2) f 0 (bodyC 0 0 (B_l_world G cw)) := by
  refine fnl_of F sc_l_world (F.bindsN fun _ _ _ _ _ _ us hl => match us, hl with | [], _ => rfl) fun cdv A outer s H E hr => ?_
  have nd : ([] : List Str).Nodup := sc_l_world.nd
  have hu := hr.units
  have hu5 : (A.deeper (envOfC "_law_world" (defScope s_l_world) s.heap.objs.size f cdv)).units + 65 < cLine := by have := hr.un; omega
  have hp := passN (X := cxOf (L2N.CX P w) P w K mg base [] "_law_world" (defScope s_l_world) f cdv A outer s H E) rfl
  have hr0 := hr.mono (Nat.le_succ k)
  have hr1 := hr
  exact (lss_one (ls_ret (le_disp (lpps_cons le_str (le_lst (fr := false) la_nil) (lpps_cons le_str (le_lst (fr := false) la_nil) lpps_nil)))))
abbrev s_l_up : Stmt := top 23
theorem sc_l_up : FnScope ["_law_w", "_law_kind_here"] ["_law_w", "_law_kind_here"] (defScope s_l_up) := ⟨rfl, rfl, rfl, by decide +kernel, rfl, by decide +kernel, by decide +kernel⟩
theorem d_l_up {f : Addr} {fd : FuncData} (F : FunD K "_law_up" "_law_up" (defArgs s_l_up) (defBody s_l_up) (defScope s_l_up) [] [] f fd) (f_l_up : GFn P w K mg base k ("_law_up" : Str) 2 (cw .l_up)) : FnL P w K mg base (k + 2) f 2 (bodyC 2 2 (B_l_up G cw)) := by
  refine fnl_of F sc_l_up (F.bindsN fun _ _ _ _ _ _ us hl => match us, hl with | [_, _], _ => rfl) fun cdv A outer s H E hr => ?_
  have nd : (["_law_w", "_law_kind_here"] : List Str).Nodup := sc_l_up.nd
  have hu := hr.units
  have hu5 : (A.deeper (envOfC "_law_up" (defScope s_l_up) s.heap.objs.size f cdv)).units + 65 < cLine := by have := hr.un; omega
  have hp := passN (X := cxOf (L2N.CX P w) P w K mg base ["_law_w", "_law_kind_here"] "_law_up" (defScope s_l_up) f cdv A outer s H E) rfl
  have hr0 := hr.mono (Nat.le_succ k)
  have hr1 := hr
  exact (lss_one (ls_ret (le_if (lt_cmp o_is (le_var 1) le_non) (le_lst (fr := true) la_nil) (le_bin (o_cat (fr := true)) (le_lst (fr := true) (la_cons (le_var 1) la_nil)) (le_call f_l_up hr0 (la_cons (le_var 0) (la_cons (le_ix hu (le_ix hu (le_var 0) le_str) (le_var 1)) la_nil)))))))
abbrev s_l_find : Stmt := top 24
theorem sc_l_find : FnScope ["_law_w", "_law_kind_here", "_law_deed", "_law_some", "_law_one"] ["_law_w", "_law_kind_here", "_law_deed"] (defScope s_l_find) := ⟨rfl, rfl, rfl, by decide +kernel, rfl, by decide +kernel, by decide +kernel⟩
theorem d_l_find {f : Addr} {fd : FuncData} (F : FunD K "_law_find" "_law_find" (defArgs s_l_find) (defBody s_l_find) (defScope s_l_find) [] [] f fd) (f_l_up : GFn P w K mg base k ("_law_up" : Str) 2 (cw .l_up)) : FnL P w K mg base (k + 2) f 3 (bodyC 3 5 (B_l_find G cw)) := by
  refine fnl_of F sc_l_find (F.bindsN fun _ _ _ _ _ _ us hl => match us, hl with | [_, _, _], _ => rfl) fun cdv A outer s H E hr => ?_
  have nd : (["_law_w", "_law_kind_here", "_law_deed", "_law_some", "_law_one"] : List Str).Nodup := sc_l_find.nd
  have hu := hr.units
  have hu5 : (A.deeper (envOfC "_law_find" (defScope s_l_find) s.heap.objs.size f cdv)).units + 65 < cLine := by have := hr.un; omega
  have hp := passN (X := cxOf (L2N.CX P w) P w K mg base ["_law_w", "_law_kind_here", "_law_deed", "_law_some", "_law_one"] "_law_find" (defScope s_l_find) f cdv A outer s H E) rfl
  have hr0 := hr.mono (Nat.le_succ k)
  have hr1 := hr
  exact (lss_cons (ls_setlc (i := 3) (own := [(("_law_one" : Str), 4)]) true rfl nd (li_lst (le_call f_l_up hr0 (la_cons (le_var 0) (la_cons (le_var 1) la_nil)))) (blkOk_by (by kernel_rfl)) (fun _ _ _ _ _ => pg_name (i := 4) nd rfl (Or.inl rfl)) (gow_name (by decide)) (fun _ _ _ _ _ => (lts_one (lt_cmp (o_in hu5) (le_var 2) (le_ix hu (le_ix hu (le_var 0) le_str) (le_var 4))))) (fun _ _ _ _ _ => (le_tup (la_cons (le_var 4) (la_cons (le_ix hu (le_ix hu (le_ix hu (le_var 0) le_str) (le_var 4)) (le_var 2)) la_nil))))) (lss_one (ls_ret (le_if (lt_cmp (o_ne hu) (le_var 3) (le_lst (fr := true) la_nil)) (le_ix hu (le_var 3) le_int) le_non))))
abbrev s_l_word : Stmt := top 25
theorem sc_l_word : FnScope ["_law_w", "_law_step_here", "_law_many", "_law_some", "_law_k", "_law_none"] ["_law_w", "_law_step_here"] (defScope s_l_word) := ⟨rfl, rfl, rfl, by decide +kernel, rfl, by decide +kernel, by decide +kernel⟩
theorem d_l_word {f : Addr} {fd : FuncData} (F : FunD K "_law_word" "_law_word" (defArgs s_l_word) (defBody s_l_word) (defScope s_l_word) [] [] f fd) (f_l_up : GFn P w K mg base k ("_law_up" : Str) 2 (cw .l_up)) (n_len : mg ("len" : Str) = none) (n_list : mg ("list" : Str) = none) (n_range : mg ("range" : Str) = none) : FnL P w K mg base (k + 2) f 2 (bodyC 2 6 (B_l_word G cw)) := by
  refine fnl_of F sc_l_word (F.bindsN fun _ _ _ _ _ _ us hl => match us, hl with | [_, _], _ => rfl) fun cdv A outer s H E hr => ?_
  have nd : (["_law_w", "_law_step_here", "_law_many", "_law_some", "_law_k", "_law_none"] : List Str).Nodup := sc_l_word.nd
  have hu := hr.units
  have hu5 : (A.deeper (envOfC "_law_word" (defScope s_l_word) s.heap.objs.size f cdv)).units + 65 < cLine := by have := hr.un; omega
  have hp := passN (X := cxOf (L2N.CX P w) P w K mg base ["_law_w", "_law_step_here", "_law_many", "_law_some", "_law_k", "_law_none"] "_law_word" (defScope s_l_word) f cdv A outer s H E) rfl
  have hr0 := hr.mono (Nat.le_succ k)
  have hr1 := hr
  exact (lss_cons (ls_set 2 nd (le_cb c_len n_len (la_cons (le_ix hu (le_var 0) le_str) la_nil))) (lss_cons (ls_if (lt_w (lw_and (lt_cmp (o_eq hu) (le_ix hu (le_var 1) le_int) le_str) (lw_and1 (lt_cmp (o_eq hu) (le_var 2) le_int)))) (lss_one (ls_ret le_str)) lss_nil) (lss_cons (ls_set 3 nd (le_bin (o_cat (fr := true)) (le_ct (c_list (fr := true)) n_list (la_cons (le_sl (fr := true) (le_var 1) (lo_some le_int) (lo_some le_int)) la_nil)) (le_ct (c_list (fr := true)) n_list (la_cons (le_if (lt_cmp (o_eq hu) (le_ix hu (le_var 1) le_int) le_str) (le_sl (fr := true) (le_var 1) (lo_some le_int) lo_none) (le_tup la_nil)) la_nil)))) (lss_cons (ls_for hp rfl (li_rng (le_cb c_len n_len (la_cons (le_var 3) la_nil)) n_range) (lg_name 4 nd) (lss_cons (ls_set 5 nd (le_and (le_cmp o_is (le_ix hu (le_var 3) (le_var 4)) le_non) (le_one (le_or (le_cmp (o_eq hu) (le_ix hu (le_var 1) le_int) le_str) (le_one (le_cmp (o_eq hu) (le_var 4) le_int)))))) (lss_one (ls_if (lt_w (lw_and (lt_not (lt_val (le_var 5))) (lw_and1 (lt_not (lt_chain o_le o_lt le_int (le_ix hu (le_var 3) (le_var 4)) (le_var 2)))))) (lss_one (ls_ret le_str)) lss_nil)))) (lss_cons (ls_if (lt_cmp (o_in hu5) (le_ix hu (le_var 1) le_int) (le_tup (la_cons le_str (la_cons le_str la_nil)))) (lss_cons (ls_if (lt_cmp (o_notin hu5) (le_ix hu (le_var 1) le_int) (le_tup (la_cons le_str (la_cons le_str (la_cons le_str (la_cons le_str (la_cons le_str (la_cons le_str la_nil)))))))) (lss_one (ls_ret le_str)) lss_nil) (lss_cons (ls_if (lt_w (lw_and (lt_cmp (o_eq hu) (le_ix hu (le_var 1) le_int) le_str) (lw_and1 (lt_cmp (o_notin hu5) (le_ix hu (le_var 1) le_int) (le_ix hu (le_ix hu (le_var 0) le_str) (le_ix hu (le_var 1) le_int)))))) (lss_one (ls_ret le_str)) lss_nil) (lss_one (ls_ret (le_if (lt_w (lw_and (lt_cmp (o_eq hu) (le_ix hu (le_var 1) le_int) le_str) (lw_and1 (lt_not (lt_chain o_le o_le le_int (le_ix hu (le_var 1) le_int) le_int))))) le_str le_str))))) lss_nil) (lss_one (ls_ret (le_if (lt_w (lw_and (lt_cmp (o_eq hu) (le_ix hu (le_var 1) le_int) le_str) (lw_and1 (lt_cmp (o_in hu5) (le_ix hu (le_var 1) le_int) (le_call f_l_up hr0 (la_cons (le_var 0) (la_cons (le_ix hu (le_var 1) le_int) la_nil))))))) le_str le_str))))))))
abbrev s_l_change : Stmt := top 26
theorem sc_l_change : FnScope ["_law_w", "_law_step_here"] ["_law_w", "_law_step_here"] (defScope s_l_change) := ⟨rfl, rfl, rfl, by decide +kernel, rfl, by decide +kernel, by decide +kernel⟩
theorem d_l_change {f : Addr} {fd : FuncData} (F : FunD K "_law_change" "_law_change" (defArgs s_l_change) (defBody s_l_change) (defScope s_l_change) [] [] f fd) (n_len : mg ("len" : Str) = none) : FnL P w K mg base (k + 2) f 2 (bodyC 2 2 (B_l_change G cw)) := by
  refine fnl_of F sc_l_change (F.bindsN fun _ _ _ _ _ _ us hl => match us, hl with | [_, _], _ => rfl) fun cdv A outer s H E hr => ?_
  have nd : (["_law_w", "_law_step_here"] : List Str).Nodup := sc_l_change.nd
  have hu := hr.units
  have hu5 : (A.deeper (envOfC "_law_change" (defScope s_l_change) s.heap.objs.size f cdv)).units + 65 < cLine := by have := hr.un; omega
  have hp := passN (X := cxOf (L2N.CX P w) P w K mg base ["_law_w", "_law_step_here"] "_law_change" (defScope s_l_change) f cdv A outer s H E) rfl
  have hr0 := hr.mono (Nat.le_succ k)
  have hr1 := hr
  exact (lss_cons (ls_if (lt_cmp (o_eq hu) (le_ix hu (le_var 1) le_int) le_str) (lss_cons (ls_expr (le_mt m_append PySem.F.plainAttrs_list PySem.F.slot_list_append PySem.F.type_list_append (le_ix hu (le_var 0) le_str) (la_cons (le_ix hu (le_var 1) le_int) la_nil))) (lss_cons (ls_expr (le_mt m_append PySem.F.plainAttrs_list PySem.F.slot_list_append PySem.F.type_list_append (le_ix hu (le_var 0) le_str) (la_cons le_dk la_nil))) (lss_one (ls_ret (le_bin o_sub (le_cb c_len n_len (la_cons (le_ix hu (le_var 0) le_str) la_nil)) le_int))))) lss_nil) (lss_cons (ls_if (lt_cmp (o_eq hu) (le_ix hu (le_var 1) le_int) le_str) (lss_one (ls_asg (le_ix hu (le_var 1) le_int) (lg_sub hu (le_ix hu (le_ix hu (le_var 0) le_str) (le_ix hu (le_var 1) le_int)) (le_ix hu (le_var 1) le_int)))) (lss_one (ls_if (lt_cmp (o_eq hu) (le_ix hu (le_var 1) le_int) le_str) (lss_one (ls_expr (le_mt m_dpop PySem.F.plainAttrs_dict PySem.F.slot_dict_pop PySem.F.type_dict_pop (le_ix hu (le_ix hu (le_var 0) le_str) (le_ix hu (le_var 1) le_int)) (la_cons (le_ix hu (le_var 1) le_int) la_nil)))) (lss_one (ls_asg (le_ix hu (le_var 1) le_int) (lg_sub hu (le_ix hu (le_var 0) le_str) (le_ix hu (le_var 1) le_int))))))) (lss_one (ls_ret le_non))))
abbrev s_l_kinds : Stmt := top 27
theorem sc_l_kinds : FnScope ["_law_w", "_law_found", "_law_kind_here", "_law_own", "_law_deed"] ["_law_w"] (defScope s_l_kinds) := ⟨rfl, rfl, rfl, by decide +kernel, rfl, by decide +kernel, by decide +kernel⟩
theorem d_l_kinds {f : Addr} {fd : FuncData} (F : FunD K "_law_kinds" "_law_kinds" (defArgs s_l_kinds) (defBody s_l_kinds) (defScope s_l_kinds) [] [] f fd) (n_len : mg ("len" : Str) = none) (n_range : mg ("range" : Str) = none) : FnL P w K mg base (k + 2) f 1 (bodyC 1 5 (B_l_kinds G cw)) := by
  refine fnl_of F sc_l_kinds (F.bindsN fun _ _ _ _ _ _ us hl => match us, hl with | [_], _ => rfl) fun cdv A outer s H E hr => ?_
  have nd : (["_law_w", "_law_found", "_law_kind_here", "_law_own", "_law_deed"] : List Str).Nodup := sc_l_kinds.nd
  have hu := hr.units
  have hu5 : (A.deeper (envOfC "_law_kinds" (defScope s_l_kinds) s.heap.objs.size f cdv)).units + 65 < cLine := by have := hr.un; omega
  have hp := passN (X := cxOf (L2N.CX P w) P w K mg base ["_law_w", "_law_found", "_law_kind_here", "_law_own", "_law_deed"] "_law_kinds" (defScope s_l_kinds) f cdv A outer s H E) rfl
  have hr0 := hr.mono (Nat.le_succ k)
  have hr1 := hr
  exact (lss_cons (ls_set 1 nd (le_lst (fr := false) la_nil)) (lss_cons (ls_for hp rfl (li_rng (le_cb c_len n_len (la_cons (le_ix hu (le_var 0) le_str) la_nil)) n_range) (lg_name 2 nd) (lss_cons (ls_set 3 nd (le_ix hu (le_ix hu (le_var 0) le_str) (le_var 2))) (lss_one (ls_expr (le_mt m_append PySem.F.plainAttrs_list PySem.F.slot_list_append PySem.F.type_list_append (le_var 1) (la_cons (le_tup (la_cons (le_ix hu (le_ix hu (le_var 0) le_str) (le_var 2)) (la_cons (le_lc (own := [(("_law_deed" : Str), 4)]) true rfl nd (li_str le_str) (blkOk_by (by kernel_rfl)) (fun _ _ _ _ _ => pg_name (i := 4) nd rfl (Or.inl rfl)) (gow_name (by decide)) (fun _ _ _ _ _ => (lts_one (lt_cmp (o_in hu5) (le_var 4) (le_var 3)))) (fun _ _ _ _ _ => (le_tup (la_cons (le_var 4) (la_cons (le_ix hu (le_var 3) (le_var 4)) la_nil))))) la_nil))) la_nil)))))) (lss_one (ls_ret (le_var 1)))))
abbrev s_l_step : Stmt := top 28
theorem sc_l_step : FnScope ["_law_h", "_law_w", "_law_many", "_law_turn", "_law_kind_here", "_law_deed", "_law_own"] ["_law_h", "_law_w"] (defScope s_l_step) := ⟨rfl, rfl, rfl, by decide +kernel, rfl, by decide +kernel, by decide +kernel⟩
theorem d_l_step {f : Addr} {fd : FuncData} (F : FunD K "_law_step" "_law_step" (defArgs s_l_step) (defBody s_l_step) (defScope s_l_step) [] [] f fd) (f_l_next : GFn P w K mg base k ("_law_next" : Str) 2 (cw .l_next)) (n_int : mg ("int" : Str) = none) (n_len : mg ("len" : Str) = none) (n_max : mg ("max" : Str) = none) (n_sorted : mg ("sorted" : Str) = none) : FnL P w K mg base (k + 2) f 2 (bodyC 2 7 (B_l_step G cw)) := by
  refine fnl_of F sc_l_step (F.bindsN fun _ _ _ _ _ _ us hl => match us, hl with | [_, _], _ => rfl) fun cdv A outer s H E hr => ?_
  have nd : (["_law_h", "_law_w", "_law_many", "_law_turn", "_law_kind_here", "_law_deed", "_law_own"] : List Str).Nodup := sc_l_step.nd
  have hu := hr.units
  have hu5 : (A.deeper (envOfC "_law_step" (defScope s_l_step) s.heap.objs.size f cdv)).units + 65 < cLine := by have := hr.un; omega
  have hp := passN (X := cxOf (L2N.CX P w) P w K mg base ["_law_h", "_law_w", "_law_many", "_law_turn", "_law_kind_here", "_law_deed", "_law_own"] "_law_step" (defScope s_l_step) f cdv A outer s H E) rfl
  have hr0 := hr.mono (Nat.le_succ k)
  have hr1 := hr
  exact (lss_cons (ls_set 2 nd (le_cb c_len n_len (la_cons (le_ix hu (le_var 1) le_str) la_nil))) (lss_cons (ls_set 3 nd (le_call f_l_next hr0 (la_cons (le_var 0) (la_cons le_int la_nil)))) (lss_cons (ls_set 4 nd (le_call f_l_next hr0 (la_cons (le_var 0) (la_cons (le_cb (c_max rfl) n_max (la_cons le_int (la_cons (le_var 2) la_nil))) la_nil)))) (lss_cons (ls_if (lt_w (lw_or (lt_cmp o_lt (le_var 2) le_int) (lw_or (lt_cmp (o_eq hu) (le_var 3) le_int) (lw_or1 (lt_w (lw_and (lt_cmp o_lt (le_var 3) le_int) (lw_and1 (lt_cmp o_lt (le_var 2) le_int)))))))) (lss_one (ls_ret (le_tup (la_cons le_str (la_cons (le_ix hu (le_lst (fr := true) (la_cons le_non (la_cons (le_var 4) la_nil))) (le_ct c_int n_int (la_cons (le_and (le_cmp o_gt (le_var 2) le_int) (le_one (le_cmp o_gt (le_call f_l_next hr0 (la_cons (le_var 0) (la_cons le_int la_nil))) le_int))) la_nil))) la_nil))))) lss_nil) (lss_cons (ls_set 5 nd (le_ix hu le_str (le_call f_l_next hr0 (la_cons (le_var 0) (la_cons (le_ix hu (le_lst (fr := true) (la_cons le_int (la_cons le_int la_nil))) (le_call f_l_next hr0 (la_cons (le_var 0) (la_cons le_int la_nil)))) la_nil))))) (lss_cons (ls_if (lt_cmp o_lt (le_var 3) le_int) (lss_one (ls_ret (le_tup (la_cons le_str (la_cons (le_var 4) (la_cons (le_var 5) (la_cons (le_ix hu (le_lst (fr := true) (la_cons (le_call f_l_next hr0 (la_cons (le_var 0) (la_cons le_int la_nil))) (la_cons le_int (la_cons (le_call f_l_next hr0 (la_cons (le_var 0) (la_cons le_int la_nil))) la_nil)))) (le_call f_l_next hr0 (la_cons (le_var 0) (la_cons le_int la_nil)))) la_nil))))))) lss_nil) (lss_cons (ls_if (lt_cmp o_lt (le_var 3) le_int) (lss_cons (ls_set 6 nd (le_cb (c_sortD (fr := true) rfl) n_sorted (la_cons (le_ix hu (le_ix hu (le_var 1) le_str) (le_var 4)) la_nil))) (lss_one (ls_ret (le_tup (la_cons le_str (la_cons (le_var 4) (la_cons (le_if (lt_cmp (o_ne hu) (le_var 6) (le_lst (fr := true) la_nil)) (le_ix hu (le_var 6) (le_call f_l_next hr0 (la_cons (le_var 0) (la_cons (le_cb c_len n_len (la_cons (le_var 6) la_nil)) la_nil)))) (le_var 5)) la_nil))))))) lss_nil) (lss_one (ls_ret (le_tup (la_cons le_str (la_cons (le_var 4) (la_cons (le_ix hu (le_lst (fr := true) (la_cons le_non (la_cons (le_call f_l_next hr0 (la_cons (le_var 0) (la_cons (le_var 2) la_nil))) la_nil))) (le_ct c_int n_int (la_cons (le_cmp o_gt (le_call f_l_next hr0 (la_cons (le_var 0) (la_cons le_int la_nil))) le_int) la_nil))) la_nil)))))))))))))
abbrev s_l_odd : Stmt := top 29
theorem sc_l_odd : FnScope ["_law_h", "_law_w", "_law_many", "_law_far", "_law_kind_here", "_law_out", "_law_some"] ["_law_h", "_law_w"] (defScope s_l_odd) := ⟨rfl, rfl, rfl, by decide +kernel, rfl, by decide +kernel, by decide +kernel⟩
theorem d_l_odd {f : Addr} {fd : FuncData} (F : FunD K "_law_odd" "_law_odd" (defArgs s_l_odd) (defBody s_l_odd) (defScope s_l_odd) [] [] f fd) (f_l_next : GFn P w K mg base k ("_law_next" : Str) 2 (cw .l_next)) (n_len : mg ("len" : Str) = none) (n_max : mg ("max" : Str) = none) : FnL P w K mg base (k + 2) f 2 (bodyC 2 7 (B_l_odd G cw)) := by
  refine fnl_of F sc_l_odd (F.bindsN fun _ _ _ _ _ _ us hl => match us, hl with | [_, _], _ => rfl) fun cdv A outer s H E hr => ?_
  have nd : (["_law_h", "_law_w", "_law_many", "_law_far", "_law_kind_here", "_law_out", "_law_some"] : List Str).Nodup := sc_l_odd.nd
  have hu := hr.units
  have hu5 : (A.deeper (envOfC "_law_odd" (defScope s_l_odd) s.heap.objs.size f cdv)).units + 65 < cLine := by have := hr.un; omega
  have hp := passN (X := cxOf (L2N.CX P w) P w K mg base ["_law_h", "_law_w", "_law_many", "_law_far", "_law_kind_here", "_law_out", "_law_some"] "_law_odd" (defScope s_l_odd) f cdv A outer s H E) rfl
  have hr0 := hr.mono (Nat.le_succ k)
  have hr1 := hr
  exact (lss_cons (ls_set 2 nd (le_cb c_len n_len (la_cons (le_ix hu (le_var 1) le_str) la_nil))) (lss_cons (ls_set 3 nd (le_call f_l_next hr0 (la_cons (le_var 0) (la_cons (le_bin o_pow le_int le_int) la_nil)))) (lss_cons (ls_set 4 nd (le_call f_l_next hr0 (la_cons (le_var 0) (la_cons (le_cb (c_max rfl) n_max (la_cons le_int (la_cons (le_var 2) la_nil))) la_nil)))) (lss_cons (ls_set 5 nd (le_ix hu (le_lst (fr := true) (la_cons (le_var 2) (la_cons (le_bin o_add (le_var 2) (le_var 3)) (la_cons (le_neg le_int) (la_cons (le_bin o_sub (le_neg le_int) (le_var 3)) la_nil))))) (le_call f_l_next hr0 (la_cons (le_var 0) (la_cons le_int la_nil))))) (lss_cons (ls_set 6 nd (le_lst (fr := true) (la_cons (le_tup (la_cons le_str (la_cons (le_var 5) la_nil))) (la_cons (le_tup (la_cons le_str (la_cons (le_var 5) (la_cons le_str (la_cons le_int la_nil))))) (la_cons (le_tup (la_cons le_str (la_cons (le_var 4) (la_cons le_str (la_cons le_int la_nil))))) (la_cons (le_tup (la_cons le_str (la_cons (le_var 4) (la_cons le_str (la_cons le_int la_nil))))) (la_cons (le_tup (la_cons le_str (la_cons (le_var 4) (la_cons le_str (la_cons le_int la_nil))))) la_nil))))))) (lss_cons (ls_set 6 nd (le_bin (o_cat (fr := true)) (le_var 6) (le_lst (fr := true) (la_cons (le_tup (la_cons le_str (la_cons (le_var 4) (la_cons le_str (la_cons (le_bin o_add le_int (le_var 3)) la_nil))))) (la_cons (le_tup (la_cons le_str (la_cons (le_var 4) (la_cons le_str (la_cons (le_bin o_sub (le_neg le_int) (le_var 3)) la_nil))))) (la_cons (le_tup (la_cons le_str (la_cons (le_var 5) (la_cons le_str la_nil)))) (la_cons (le_tup (la_cons le_str (la_cons (le_var 4) (la_cons le_str la_nil)))) la_nil))))))) (lss_cons (ls_set 6 nd (le_bin (o_cat (fr := true)) (le_var 6) (le_lst (fr := true) (la_cons (le_tup (la_cons le_str (la_cons (le_var 4) (la_cons le_str la_nil)))) (la_cons (le_tup (la_cons le_str (la_cons (le_var 5) (la_cons le_non la_nil)))) (la_cons (le_tup (la_cons le_str (la_cons (le_var 4) (la_cons (le_var 5) la_nil)))) (la_cons (le_tup (la_cons le_str (la_cons (le_var 4) (la_cons (le_var 4) la_nil)))) la_nil))))))) (lss_one (ls_ret (le_ix hu (le_bin (o_cat (fr := true)) (le_var 6) (le_lst (fr := true) (la_cons (le_tup (la_cons le_str (la_cons (le_var 5) (la_cons (le_var 5) la_nil)))) la_nil))) (le_call f_l_next hr0 (la_cons (le_var 0) (la_cons le_int la_nil)))))))))))))
abbrev s_l_does : Stmt := top 31
theorem sc_l_does : FnScope ["_law_near", "_law_step_here", "_law_e"] ["_law_near", "_law_step_here"] (defScope s_l_does) := ⟨rfl, rfl, rfl, by decide +kernel, rfl, by decide +kernel, by decide +kernel⟩
theorem d_l_does {f : Addr} {fd : FuncData} (F : FunD K "_law_does" "_law_does" (defArgs s_l_does) (defBody s_l_does) (defScope s_l_does) [] [] f fd) (c_W : L2.Cls K G.cW) (f_World_add : MFn P w K mg base k G.cW ("add" : Str) 1 (cw .World_add)) (f_World_drop : MFn P w K mg base k G.cW ("drop" : Str) 2 (cw .World_drop)) (f_World_put : MFn P w K mg base k G.cW ("put" : Str) 3 (cw .World_put)) (f_World_turn : MFn P w K mg base k G.cW ("turn" : Str) 2 (cw .World_turn)) (nm : NmOk P w K mg base (k + 1) G.eLookError (tblG G)) : FnL P w K mg base (k + 2) f 2 (bodyC 2 3 (B_l_does G cw)) := by
  refine fnl_of F sc_l_does (F.bindsN fun _ _ _ _ _ _ us hl => match us, hl with | [_, _], _ => rfl) fun cdv A outer s H E hr => ?_
  have nd : (["_law_near", "_law_step_here", "_law_e"] : List Str).Nodup := sc_l_does.nd
  have hu := hr.units
  have hu5 : (A.deeper (envOfC "_law_does" (defScope s_l_does) s.heap.objs.size f cdv)).units + 65 < cLine := by have := hr.un; omega
  have hp := passN (X := cxOf (L2N.CX P w) P w K mg base ["_law_near", "_law_step_here", "_law_e"] "_law_does" (defScope s_l_does) f cdv A outer s H E) rfl
  have hr0 := hr.mono (Nat.le_succ k)
  have hr1 := hr
  exact (lss_one (ls_tryN (i := 2) rfl rfl nd rfl rfl nm hr1 (fun pn xe hp => (lss_cons (ls_if (lt_cmp (o_eq hu) (le_ix hu (le_var 1) le_int) le_str) (lss_one (ls_ret (le_meth f_World_add hr0 (le_var 0) (la_cons (le_ix hu (le_var 1) le_int) la_nil)))) lss_nil) (lss_cons (ls_if (lt_cmp (o_eq hu) (le_ix hu (le_var 1) le_int) le_str) (lss_one (ls_ret (le_meth f_World_put hr0 (le_var 0) (la_cons (le_ix hu (le_var 1) le_int) (la_cons (le_ix hu (le_var 1) le_int) (la_cons (le_ix hu (le_var 1) le_int) la_nil)))))) lss_nil) (lss_cons (ls_if (lt_cmp (o_eq hu) (le_ix hu (le_var 1) le_int) le_str) (lss_one (ls_ret (le_meth f_World_drop hr0 (le_var 0) (la_cons (le_ix hu (le_var 1) le_int) (la_cons (le_ix hu (le_var 1) le_int) la_nil))))) lss_nil) (lss_one (ls_ret (le_if (lt_cmp (o_eq hu) (le_ix hu (le_var 1) le_int) le_str) (le_meth f_World_turn hr0 (le_var 0) (la_cons (le_ix hu (le_var 1) le_int) (la_cons (le_ix hu (le_var 1) le_int) la_nil))) le_never)))))))))
abbrev s_l_is_k01 : Stmt := top 33
theorem sc_l_is_k01 : FnScope ["_law_h", "_law_world_here", "_law_w", "_law_many", "_law_kind_here", "_law_deed", "_law_out", "_law_letter"] ["_law_h", "_law_world_here", "_law_w"] (defScope s_l_is_k01) := ⟨rfl, rfl, rfl, by decide +kernel, rfl, by decide +kernel, by decide +kernel⟩
theorem d_l_is_k01 {f : Addr} {fd : FuncData} (hf : f = He.fAd K ("_law_is", none)) (F : FunD K "_law_is" "_law_is" (defArgs s_l_is_k01) (defBody s_l_is_k01) (defScope s_l_is_k01) [] [] f fd) (c_W : L2.Cls K G.cW) (f_World_find : MFn P w K mg base k G.cW ("find" : Str) 2 (cw .World_find)) (f_World_kinds : MFn P w K mg base k G.cW ("kinds" : Str) 0 (cw .World_kinds)) (f_World_up : MFn P w K mg base k G.cW ("up" : Str) 1 (cw .World_up)) (f_l_alike : GFn P w K mg base k ("_law_alike" : Str) 2 (cw .l_alike)) (f_l_find : GFn P w K mg base k ("_law_find" : Str) 3 (cw .l_find)) (f_l_kinds : GFn P w K mg base k ("_law_kinds" : Str) 1 (cw .l_kinds)) (f_l_next : GFn P w K mg base k ("_law_next" : Str) 2 (cw .l_next)) (f_l_up : GFn P w K mg base k ("_law_up" : Str) 2 (cw .l_up)) (ht : tabK K = [((He.cT K ("_law_is", none)).2, (("_law_is" : Str) ++ ".<locals>.") ++ "<lambda>")]) (kd : KdOk P w K mg base (k + 2) G.eLookError (tblG G)) (n_len : mg ("len" : Str) = none) (n_range : mg ("range" : Str) = none) (tb : LamX.TabB base mg (He.codeOf K ("_law_is", none)) (He.cT K ("_law_is", none)).2) : FnL P w K mg base (k + 4) f 3 (bodyC 3 8 (B_l_is_k01 G cw)) := by
  refine ⟨⟨fd, ["_law_h", "_law_world_here", "_law_w"], rfl, fnk_ofC F hf sc_l_is_k01 fun A outer s H E hr => ?_, F.bindsN (ps := ["_law_h", "_law_world_here", "_law_w"]) fun _ _ _ _ _ _ us hl => match us, hl with | [_, _, _], _ => rfl⟩, F.kp⟩
  have nd : (["_law_h", "_law_world_here", "_law_w", "_law_many", "_law_kind_here", "_law_deed", "_law_out", "_law_letter"] : List Str).Nodup := sc_l_is_k01.nd
  have hu := hr.units
  have hu5 : (A.deeper (envOfC "_law_is" (defScope s_l_is_k01) s.heap.objs.size f (.ref (He.codeOf K ("_law_is", none))))).units + 65 < cLine := by have := hr.un; omega
  have hp := passN (X := cxOf (L2N.CX P w) P w K mg base ["_law_h", "_law_world_here", "_law_w", "_law_many", "_law_kind_here", "_law_deed", "_law_out", "_law_letter"] "_law_is" (defScope s_l_is_k01) f (.ref (He.codeOf K ("_law_is", none))) A outer s H E) rfl
  have hr0 : Room k _ := hr.mono (by omega)
  have hr1 : Room (k + 1) _ := hr.mono (by omega)
  have hrL := hr
  exact (lss_cons (ls_if (lt_not (lt_val (le_call f_l_alike hr0 (la_cons (le_meth0 f_World_kinds hr0 (le_var 1)) (la_cons (le_call f_l_kinds hr0 (la_cons (le_var 2) la_nil)) la_nil))))) (lss_one (ls_ret le_bl)) lss_nil) (lss_cons (ls_set 3 nd (le_cb c_len n_len (la_cons (le_ix hu (le_var 2) le_str) la_nil))) (lss_cons (ls_for hp rfl (li_rng (le_var 3) n_range) (lg_name 4 nd) (lss_cons (ls_if (lt_not (lt_val (le_call f_l_alike hr0 (la_cons (le_meth f_World_up hr0 (le_var 1) (la_cons (le_var 4) la_nil)) (la_cons (le_call f_l_up hr0 (la_cons (le_var 2) (la_cons (le_var 4) la_nil))) la_nil))))) (lss_one (ls_ret le_bl)) lss_nil) (lss_one (ls_for hp rfl (li_str le_str) (lg_name 5 nd) (lss_one (ls_if (lt_not (lt_val (le_call f_l_alike hr0 (la_cons (le_meth f_World_find hr0 (le_var 1) (la_cons (le_var 4) (la_cons (le_var 5) la_nil))) (la_cons (le_call f_l_find hr0 (la_cons (le_var 2) (la_cons (le_var 4) (la_cons (le_var 5) la_nil)))) la_nil))))) (lss_one (ls_ret le_bl)) lss_nil)))))) (lss_cons (ls_set 6 nd (le_ix hu (le_lst (fr := true) (la_cons (le_var 3) (la_cons (le_neg le_int) (la_cons (le_bin o_add (le_var 3) (le_call f_l_next hr0 (la_cons (le_var 0) (la_cons (le_bin o_pow le_int le_int) la_nil)))) la_nil)))) (le_call f_l_next hr0 (la_cons (le_var 0) (la_cons le_int la_nil))))) (lss_cons (ls_if (lt_cmp (o_ne hu) (le_lst (fr := true) (la_cons (le_lam (k := k + 1) kd hrL tb rfl ht (LamX.lamS_by (by kernel_rfl)) (fun A1 outer1 s1 H1 E1 f1 c1 hrb => have hr1 := hrb; have hr0 := hrb.mono (Nat.le_succ k); have hu := hrb.units; (le_meth f_World_up hr0 (le_var 1) (la_cons (le_var 6) la_nil)))) (la_cons (le_lamD (k := k + 1) (a := ("_law_a" : Str)) kd hrL tb rfl ht (lamDS_by (by kernel_rfl)) (show (("_law_a" : Str) : Str) ∉ ([("_law_h" : Str), ("_law_world_here" : Str), ("_law_w" : Str), ("_law_many" : Str), ("_law_kind_here" : Str), ("_law_deed" : Str), ("_law_out" : Str), ("_law_letter" : Str)] : List Str) by decide) (fun _ _ _ _ _ _ _ _ => ⟨_, rfl, rfl⟩) (fun A1 outer1 s1 H1 E1 f1 c1 hrb => have hr1 := hrb; have hr0 := hrb.mono (Nat.le_succ k); have hu := hrb.units; (le_meth f_World_find hr0 (le_var 1) (la_cons (le_var 6) (la_cons le_str la_nil))))) la_nil))) (le_bin (o_rep (fr := true)) (le_lst (fr := true) (la_cons le_str la_nil)) le_int)) (lss_one (ls_ret le_bl)) lss_nil) (lss_cons (ls_set 7 nd (le_ix hu (le_lst (fr := true) (la_cons le_str (la_cons le_str (la_cons le_str (la_cons le_str (la_cons le_str la_nil)))))) (le_call f_l_next hr0 (la_cons (le_var 0) (la_cons le_int la_nil))))) (lss_one (ls_ret (le_or (le_cmp (o_eq hu) (le_var 3) le_int) (le_one (le_cmp (o_eq hu) (le_lam (k := k + 1) kd hrL tb rfl ht (LamX.lamS_by (by kernel_rfl)) (fun A1 outer1 s1 H1 E1 f1 c1 hrb => have hr1 := hrb; have hr0 := hrb.mono (Nat.le_succ k); have hu := hrb.units; (le_meth f_World_find hr0 (le_var 1) (la_cons le_int (la_cons (le_var 7) la_nil))))) le_str)))))))))))
abbrev s_law_k01 : Stmt := top 34
theorem sc_law_k01 : FnScope ["_law_script", "_law_h", "_law_world_here", "_law_w", "_law_turn", "_law_step_here", "_law_due", "_law_kind_here", "_law_deeds"] ["_law_script"] (defScope s_law_k01) := ⟨rfl, rfl, rfl, by decide +kernel, rfl, by decide +kernel, by decide +kernel⟩
theorem d_law_k01 {f : Addr} {fd : FuncData} (F : FunD K "law" "law" (defArgs s_law_k01) (defBody s_law_k01) (defScope s_law_k01) [] [] f fd) (c_W : L2.Cls K G.cW) (f_World_kinds : MFn P w K mg base k G.cW ("kinds" : Str) 0 (cw .World_kinds)) (f_l_alike : GFn P w K mg base k ("_law_alike" : Str) 2 (cw .l_alike)) (f_l_change : GFn P w K mg base k ("_law_change" : Str) 2 (cw .l_change)) (f_l_does : GFn P w K mg base k ("_law_does" : Str) 2 (cw .l_does)) (f_l_is_k01 : GFn P w K mg base k ("_law_is" : Str) 3 (cw .l_is_k01)) (f_l_mix : GFn P w K mg base k ("_law_mix" : Str) 2 (cw .l_mix)) (f_l_next : GFn P w K mg base k ("_law_next" : Str) 2 (cw .l_next)) (f_l_odd : GFn P w K mg base k ("_law_odd" : Str) 2 (cw .l_odd)) (f_l_step : GFn P w K mg base k ("_law_step" : Str) 2 (cw .l_step)) (f_l_word : GFn P w K mg base k ("_law_word" : Str) 2 (cw .l_word)) (f_l_world : GFn P w K mg base k ("_law_world" : Str) 0 (cw .l_world)) (m_World : KFn P w K mg base k ("World" : Str) G.cW 0 (cw .World_init)) (n_range : mg ("range" : Str) = none) : FnL P w K mg base (k + 2) f 1 (bodyC 1 9 (B_law_k01 G cw)) := by
  refine fnl_of F sc_law_k01 (F.bindsN fun _ _ _ _ _ _ us hl => match us, hl with | [_], _ => rfl) fun cdv A outer s H E hr => ?_
  have nd : (["_law_script", "_law_h", "_law_world_here", "_law_w", "_law_turn", "_law_step_here", "_law_due", "_law_kind_here", "_law_deeds"] : List Str).Nodup := sc_law_k01.nd
  have hu := hr.units
  have hu5 : (A.deeper (envOfC "law" (defScope s_law_k01) s.heap.objs.size f cdv)).units + 65 < cLine := by have := hr.un; omega
  have hp := passN (X := cxOf (L2N.CX P w) P w K mg base ["_law_script", "_law_h", "_law_world_here", "_law_w", "_law_turn", "_law_step_here", "_law_due", "_law_kind_here", "_law_deeds"] "law" (defScope s_law_k01) f cdv A outer s H E) rfl
  have hr0 := hr.mono (Nat.le_succ k)
  have hr1 := hr
  exact (lss_cons (ls_set 1 nd (le_call f_l_mix hr0 (la_cons (le_var 0) (la_cons le_int la_nil)))) (lss_cons (ls_set 2 nd (le_make0 m_World hr1)) (lss_cons (ls_set 3 nd (le_call0 f_l_world hr0)) (lss_cons (ls_for hp rfl (li_rng (le_call f_l_next hr0 (la_cons (le_var 1) (la_cons le_int la_nil))) n_range) (lg_name 4 nd) (lss_cons (ls_set 5 nd (le_ix hu (le_lst (fr := true) (la_cons (le_call f_l_step hr0 (la_cons (le_var 1) (la_cons (le_var 3) la_nil))) (la_cons (le_call f_l_step hr0 (la_cons (le_var 1) (la_cons (le_var 3) la_nil))) (la_cons (le_call f_l_odd hr0 (la_cons (le_var 1) (la_cons (le_var 3) la_nil))) la_nil)))) (le_call f_l_next hr0 (la_cons (le_var 1) (la_cons le_int la_nil))))) (lss_cons (ls_set 6 nd (le_call f_l_word hr0 (la_cons (le_var 3) (la_cons (le_var 5) la_nil)))) (lss_cons (ls_if (lt_cmp (o_eq hu) (le_var 6) le_str) (lss_one (ls_set 6 nd (le_call f_l_change hr0 (la_cons (le_var 3) (la_cons (le_var 5) la_nil))))) lss_nil) (lss_cons (ls_if (lt_w (lw_or (lt_not (lt_val (le_call f_l_alike hr0 (la_cons (le_call f_l_does hr0 (la_cons (le_var 2) (la_cons (le_var 5) la_nil))) (la_cons (le_var 6) la_nil))))) (lw_or1 (lt_not (lt_val (le_call f_l_is_k01 hr0 (la_cons (le_var 1) (la_cons (le_var 2) (la_cons (le_var 3) la_nil))))))))) (lss_one (ls_ret le_bl)) lss_nil) (lss_cons (ls_for hp rfl (li_lst (le_meth0 f_World_kinds hr0 (le_var 2))) (lg_tup rfl (lgs_cons 7 nd (lgs_cons 8 nd lgs_nil))) (lss_one (ls_expr (le_mt m_append PySem.F.plainAttrs_list PySem.F.slot_list_append PySem.F.type_list_append (le_var 8) (la_cons (le_tup (la_cons le_str (la_cons le_int la_nil))) la_nil))))) (lss_one (ls_expr (le_mt0 m_clear PySem.F.plainAttrs_list PySem.F.slot_list_clear PySem.F.type_list_clear (le_meth0 f_World_kinds hr0 (le_var 2))))))))))) (lss_one (ls_ret (le_call f_l_is_k01 hr0 (la_cons (le_var 1) (la_cons (le_var 2) (la_cons (le_var 3) la_nil))))))))))
theorem e_law_k01 {f : Addr} {fd : FuncData} (F : FunD K "law" "law" (defArgs s_law_k01) (defBody s_law_k01) (defScope s_law_k01) [] [] f fd) (c_W : L2.Cls K G.cW) (f_World_kinds : MFn P w K mg base k G.cW ("kinds" : Str) 0 (cw .World_kinds)) (f_l_alike : GFn P w K mg base k ("_law_alike" : Str) 2 (cw .l_alike)) (f_l_change : GFn P w K mg base k ("_law_change" : Str) 2 (cw .l_change)) (f_l_does : GFn P w K mg base k ("_law_does" : Str) 2 (cw .l_does)) (f_l_is_k01 : GFn P w K mg base k ("_law_is" : Str) 3 (cw .l_is_k01)) (f_l_mix : GFn P w K mg base k ("_law_mix" : Str) 2 (cw .l_mix)) (f_l_next : GFn P w K mg base k ("_law_next" : Str) 2 (cw .l_next)) (f_l_odd : GFn P w K mg base k ("_law_odd" : Str) 2 (cw .l_odd)) (f_l_step : GFn P w K mg base k ("_law_step" : Str) 2 (cw .l_step)) (f_l_word : GFn P w K mg base k ("_law_word" : Str) 2 (cw .l_word)) (f_l_world : GFn P w K mg base k ("_law_world" : Str) 0 (cw .l_world)) (m_World : KFn P w K mg base k ("World" : Str) G.cW 0 (cw .World_init)) (n_range : mg ("range" : Str) = none) : FnOk P w K mg base (L2N.CX P w) (k + 2) f fd ["_law_script"] (spL K 1 (bodyC 1 9 (B_law_k01 G cw))) := by
  refine fnk_of F sc_law_k01 fun cdv A outer s H E hr => ?_
  have nd : (["_law_script", "_law_h", "_law_world_here", "_law_w", "_law_turn", "_law_step_here", "_law_due", "_law_kind_here", "_law_deeds"] : List Str).Nodup := sc_law_k01.nd
  have hu := hr.units
  have hu5 : (A.deeper (envOfC "law" (defScope s_law_k01) s.heap.objs.size f cdv)).units + 65 < cLine := by have := hr.un; omega
  have hp := passN (X := cxOf (L2N.CX P w) P w K mg base ["_law_script", "_law_h", "_law_world_here", "_law_w", "_law_turn", "_law_step_here", "_law_due", "_law_kind_here", "_law_deeds"] "law" (defScope s_law_k01) f cdv A outer s H E) rfl
  have hr0 := hr.mono (Nat.le_succ k)
  have hr1 := hr
  exact (lss_cons (ls_set 1 nd (le_call f_l_mix hr0 (la_cons (le_var 0) (la_cons le_int la_nil)))) (lss_cons (ls_set 2 nd (le_make0 m_World hr1)) (lss_cons (ls_set 3 nd (le_call0 f_l_world hr0)) (lss_cons (ls_for hp rfl (li_rng (le_call f_l_next hr0 (la_cons (le_var 1) (la_cons le_int la_nil))) n_range) (lg_name 4 nd) (lss_cons (ls_set 5 nd (le_ix hu (le_lst (fr := true) (la_cons (le_call f_l_step hr0 (la_cons (le_var 1) (la_cons (le_var 3) la_nil))) (la_cons (le_call f_l_step hr0 (la_cons (le_var 1) (la_cons (le_var 3) la_nil))) (la_cons (le_call f_l_odd hr0 (la_cons (le_var 1) (la_cons (le_var 3) la_nil))) la_nil)))) (le_call f_l_next hr0 (la_cons (le_var 1) (la_cons le_int la_nil))))) (lss_cons (ls_set 6 nd (le_call f_l_word hr0 (la_cons (le_var 3) (la_cons (le_var 5) la_nil)))) (lss_cons (ls_if (lt_cmp (o_eq hu) (le_var 6) le_str) (lss_one (ls_set 6 nd (le_call f_l_change hr0 (la_cons (le_var 3) (la_cons (le_var 5) la_nil))))) lss_nil) (lss_cons (ls_if (lt_w (lw_or (lt_not (lt_val (le_call f_l_alike hr0 (la_cons (le_call f_l_does hr0 (la_cons (le_var 2) (la_cons (le_var 5) la_nil))) (la_cons (le_var 6) la_nil))))) (lw_or1 (lt_not (lt_val (le_call f_l_is_k01 hr0 (la_cons (le_var 1) (la_cons (le_var 2) (la_cons (le_var 3) la_nil))))))))) (lss_one (ls_ret le_bl)) lss_nil) (lss_cons (ls_for hp rfl (li_lst (le_meth0 f_World_kinds hr0 (le_var 2))) (lg_tup rfl (lgs_cons 7 nd (lgs_cons 8 nd lgs_nil))) (lss_one (ls_expr (le_mt m_append PySem.F.plainAttrs_list PySem.F.slot_list_append PySem.F.type_list_append (le_var 8) (la_cons (le_tup (la_cons le_str (la_cons le_int la_nil))) la_nil))))) (lss_one (ls_expr (le_mt0 m_clear PySem.F.plainAttrs_list PySem.F.slot_list_clear PySem.F.type_list_clear (le_meth0 f_World_kinds hr0 (le_var 2))))))))))) (lss_one (ls_ret (le_call f_l_is_k01 hr0 (la_cons (le_var 1) (la_cons (le_var 2) (la_cons (le_var 3) la_nil))))))))))
abbrev s_l_kind : Stmt := top 32
theorem sc_l_kind : FnScope ["_law_work", "_law_e"] ["_law_work"] (defScope s_l_kind) := ⟨rfl, rfl, rfl, by decide +kernel, rfl, by decide +kernel, by decide +kernel⟩
theorem kb_l_kind : KindB (defBody s_l_kind) := ⟨_, _, _, _, _, _, _, _, _, _, _, _, _, rfl⟩
abbrev s_l_name : Stmt := top 30
theorem sc_l_name : FnScope ["_law_e", "_law_kinds_here", "_law_words"] ["_law_e"] (defScope s_l_name) := ⟨rfl, rfl, rfl, by decide +kernel, rfl, by decide +kernel, by decide +kernel⟩
theorem nm_x {f : Addr} (n_ValueError : mg ("ValueError" : Str) = none) (n_isinstance : mg ("isinstance" : Str) = none) (q_BadRule : mg ("BadRule" : Str) = some (.ref G.eBadRule)) (q_BadSpots : mg ("BadSpots" : Str) = some (.ref G.eBadSpots)) (q_BadText : mg ("BadText" : Str) = some (.ref G.eBadText)) (q_BadWide : mg ("BadWide" : Str) = some (.ref G.eBadWide)) (q_NoBody : mg ("NoBody" : Str) = some (.ref G.eNoBody)) (q_NoDeed : mg ("NoDeed" : Str) = some (.ref G.eNoDeed)) (q_NoKind : mg ("NoKind" : Str) = some (.ref G.eNoKind)) (q_NoSpot : mg ("NoSpot" : Str) = some (.ref G.eNoSpot)) (q_Ring : mg ("Ring" : Str) = some (.ref G.eRing)) (q_TooMany : mg ("TooMany" : Str) = some (.ref G.eTooMany)) {cdv : Value} {A : Around} {outer : List Env} {s : Shared} {H : Hp} {p : Addr × Obj} {C : Addr} (ask : AskOk K A p C) (ec : ExcC K C) (hr : L2H.RoomH k (A.deeper (envOfC "_law_name" (defScope s_l_name) s.heap.objs.size f cdv))) :
    LSs (L2H.cxH (L2N.CX P w) P w K mg base ["_law_e", "_law_kinds_here", "_law_words"] "_law_name" (defScope s_l_name) f cdv A outer s H (fun _ _ _ => False) p) (defBody s_l_name) (B_l_name G (lIsE K C p.1)) := by
  have nd : (["_law_e", "_law_kinds_here", "_law_words"] : List Str).Nodup := sc_l_name.nd
  have hu5 : (A.deeper (envOfC "_law_name" (defScope s_l_name) s.heap.objs.size f cdv)).units + 65 < cLine := by have := hr.un; omega
  have hu : (A.deeper (envOfC "_law_name" (defScope s_l_name) s.heap.objs.size f cdv)).units + 64 < cLine := by have := hr.un; omega
  have his : CallL (L2H.cxH (L2N.CX P w) P w K mg base ["_law_e", "_law_kinds_here", "_law_words"] "_law_name" (defScope s_l_name) f cdv A outer s H (fun _ _ _ => False) p) (.builtin "isinstance") (lIsE K C p.1) := c_isE ec (List.mem_singleton.mpr rfl) ask.cls ask.dct (let ⟨_, vs, e, _⟩ := ask.hot; ⟨vs, e⟩)
  exact (lss_cons (ls_set 1 nd (le_lst (fr := true) (la_cons (le_cb his n_isinstance (la_cons (le_var 0) (la_cons (le_gref q_TooMany) la_nil))) (la_cons (le_cb his n_isinstance (la_cons (le_var 0) (la_cons (le_gref q_NoKind) la_nil))) (la_cons (le_cb his n_isinstance (la_cons (le_var 0) (la_cons (le_gref q_NoDeed) la_nil))) (la_cons (le_cb his n_isinstance (la_cons (le_var 0) (la_cons (le_gref q_NoBody) la_nil))) la_nil)))))) (lss_cons (ls_set 1 nd (le_bin (o_cat (fr := true)) (le_var 1) (le_lst (fr := true) (la_cons (le_cb his n_isinstance (la_cons (le_var 0) (la_cons (le_gref q_Ring) la_nil))) (la_cons (le_cb his n_isinstance (la_cons (le_var 0) (la_cons (le_gref q_BadSpots) la_nil))) (la_cons (le_cb his n_isinstance (la_cons (le_var 0) (la_cons (le_gref q_BadWide) la_nil))) (la_cons (le_cb his n_isinstance (la_cons (le_var 0) (la_cons (le_gref q_BadRule) la_nil))) la_nil))))))) (lss_cons (ls_set 1 nd (le_bin (o_cat (fr := true)) (le_var 1) (le_lst (fr := true) (la_cons (le_cb his n_isinstance (la_cons (le_var 0) (la_cons (le_gref q_NoSpot) la_nil))) (la_cons (le_cb his n_isinstance (la_cons (le_var 0) (la_cons (le_gref q_BadText) la_nil))) la_nil))))) (lss_cons (ls_set 2 nd (le_lst (fr := true) (la_cons le_str (la_cons le_str (la_cons le_str (la_cons le_str (la_cons le_str (la_cons le_str (la_cons le_str (la_cons le_str (la_cons le_str (la_cons le_str la_nil)))))))))))) (lss_one (ls_ret (le_if (lt_w (lw_and (lt_cmp (o_eq hu) (le_mt (m_count hu5) PySem.F.plainAttrs_list PySem.F.slot_list_count PySem.F.type_list_count (le_var 1) (la_cons le_bl la_nil)) le_int) (lw_and1 (lt_val (le_cb his n_isinstance (la_cons (le_var 0) (la_cons (le_bty n_ValueError) la_nil))))))) (le_ix hu (le_var 2) (le_mt (m_index hu5) PySem.F.plainAttrs_list PySem.F.slot_list_index PySem.F.type_list_index (le_var 1) (la_cons le_bl la_nil))) le_str)))))))
end
end K01
end LK
set_option Elab.async false
set_option linter.all false
set_option maxRecDepth 100000
set_option maxHeartbeats 0
/-! The head, the facts, the calls, the end of k01, printed by asm.py. -/
namespace LK
open PySem PySem.Spec PyProof.Rows L2
namespace K01A
def d0 : He.DefD := ⟨("need_deed", none), "need_deed", "need_deed", defArgs K01.s_need_deed, defBody K01.s_need_deed, defScope K01.s_need_deed, [], []⟩
def d1 : He.DefD := ⟨("World", some "__init__"), "__init__", "World.__init__", defArgs K01.s_World_init, defBody K01.s_World_init, defScope K01.s_World_init, [], []⟩
def d2 : He.DefD := ⟨("World", some "need_kind"), "need_kind", "World.need_kind", defArgs K01.s_World_need_kind, defBody K01.s_World_need_kind, defScope K01.s_World_need_kind, [], []⟩
def d3 : He.DefD := ⟨("World", some "need_elder"), "need_elder", "World.need_elder", defArgs K01.s_World_need_elder, defBody K01.s_World_need_elder, defScope K01.s_World_need_elder, [], []⟩
def d4 : He.DefD := ⟨("World", some "add"), "add", "World.add", defArgs K01.s_World_add, defBody K01.s_World_add, defScope K01.s_World_add, [], []⟩
def d5 : He.DefD := ⟨("World", some "put"), "put", "World.put", defArgs K01.s_World_put, defBody K01.s_World_put, defScope K01.s_World_put, [], []⟩
def d6 : He.DefD := ⟨("World", some "drop"), "drop", "World.drop", defArgs K01.s_World_drop, defBody K01.s_World_drop, defScope K01.s_World_drop, [], []⟩
def d7 : He.DefD := ⟨("World", some "turn"), "turn", "World.turn", defArgs K01.s_World_turn, defBody K01.s_World_turn, defScope K01.s_World_turn, [], []⟩
def d8 : He.DefD := ⟨("World", some "above"), "above", "World.above", defArgs K01.s_World_above, defBody K01.s_World_above, defScope K01.s_World_above, [], []⟩
def d9 : He.DefD := ⟨("World", some "up"), "up", "World.up", defArgs K01.s_World_up, defBody K01.s_World_up, defScope K01.s_World_up, [], []⟩
def d10 : He.DefD := ⟨("World", some "found_by"), "found_by", "World.found_by", defArgs K01.s_World_found_by, defBody K01.s_World_found_by, defScope K01.s_World_found_by, [], []⟩
def d11 : He.DefD := ⟨("World", some "find"), "find", "World.find", defArgs K01.s_World_find, defBody K01.s_World_find, defScope K01.s_World_find, [], []⟩
def d12 : He.DefD := ⟨("World", some "kinds"), "kinds", "World.kinds", defArgs K01.s_World_kinds, defBody K01.s_World_kinds, defScope K01.s_World_kinds, [], []⟩
def d13 : He.DefD := ⟨("_law_mix", none), "_law_mix", "_law_mix", defArgs K01.s_l_mix, defBody K01.s_l_mix, defScope K01.s_l_mix, [], []⟩
def d14 : He.DefD := ⟨("_law_next", none), "_law_next", "_law_next", defArgs K01.s_l_next, defBody K01.s_l_next, defScope K01.s_l_next, [], []⟩
def d15 : He.DefD := ⟨("_law_alike", none), "_law_alike", "_law_alike", defArgs K01.s_l_alike, defBody K01.s_l_alike, defScope K01.s_l_alike, [], []⟩
def d16 : He.DefD := ⟨("_law_world", none), "_law_world", "_law_world", defArgs K01.s_l_world, defBody K01.s_l_world, defScope K01.s_l_world, [], []⟩
def d17 : He.DefD := ⟨("_law_up", none), "_law_up", "_law_up", defArgs K01.s_l_up, defBody K01.s_l_up, defScope K01.s_l_up, [], []⟩
def d18 : He.DefD := ⟨("_law_find", none), "_law_find", "_law_find", defArgs K01.s_l_find, defBody K01.s_l_find, defScope K01.s_l_find, [], []⟩
def d19 : He.DefD := ⟨("_law_word", none), "_law_word", "_law_word", defArgs K01.s_l_word, defBody K01.s_l_word, defScope K01.s_l_word, [], []⟩
def d20 : He.DefD := ⟨("_law_change", none), "_law_change", "_law_change", defArgs K01.s_l_change, defBody K01.s_l_change, defScope K01.s_l_change, [], []⟩
def d21 : He.DefD := ⟨("_law_kinds", none), "_law_kinds", "_law_kinds", defArgs K01.s_l_kinds, defBody K01.s_l_kinds, defScope K01.s_l_kinds, [], []⟩
def d22 : He.DefD := ⟨("_law_step", none), "_law_step", "_law_step", defArgs K01.s_l_step, defBody K01.s_l_step, defScope K01.s_l_step, [], []⟩
def d23 : He.DefD := ⟨("_law_odd", none), "_law_odd", "_law_odd", defArgs K01.s_l_odd, defBody K01.s_l_odd, defScope K01.s_l_odd, [], []⟩
def d24 : He.DefD := ⟨("_law_does", none), "_law_does", "_law_does", defArgs K01.s_l_does, defBody K01.s_l_does, defScope K01.s_l_does, [], []⟩
def d25 : He.DefD := ⟨("_law_is", none), "_law_is", "_law_is", defArgs K01.s_l_is_k01, defBody K01.s_l_is_k01, defScope K01.s_l_is_k01, [], []⟩
def d26 : He.DefD := ⟨("law", none), "law", "law", defArgs K01.s_law_k01, defBody K01.s_law_k01, defScope K01.s_law_k01, [], []⟩
def dnm : He.DefD := ⟨("_law_name", none), "_law_name", "_law_name", defArgs K01.s_l_name, defBody K01.s_l_name, defScope K01.s_l_name, [], []⟩
def dkd : He.DefD := ⟨("_law_kind", none), "_law_kind", "_law_kind", defArgs K01.s_l_kind, defBody K01.s_l_kind, defScope K01.s_l_kind, [], []⟩
def fn : List He.DefD := [d0, d1, d2, d3, d4, d5, d6, d7, d8, d9, d10, d11, d12, d13, d14, d15, d16, d17, d18, d19, d20, d21, d22, d23, d24, d25, d26, dnm, dkd]
def fa0 : List He.Fa := [.noat "World" "elders", .noat "World" "own", .cls "World", .str "LETTERS" "abcdef", .int "MOST_BODY" 99, .int "MOST_KINDS" 12, .free "ValueError", .free "bool", .free "int", .free "isinstance", .free "len", .free "list", .free "max", .free "range", .free "sorted", .free "str", .free "tuple", .glo "BadRule", .glo "BadSpots", .glo "BadText", .glo "BadWide", .glo "NoBody", .glo "NoDeed", .glo "NoKind", .glo "NoSpot", .glo "Ring", .glo "TooMany", .exc "NoBody", .exc "NoDeed", .exc "NoKind"]
def fa1 : List He.Fa := [.exc "Ring", .exc "TooMany", .glo "need_deed", .mkr "World", .glo "World", .meth "World" "need_kind", .meth "World" "need_elder", .meth "World" "add", .meth "World" "put", .meth "World" "drop", .meth "World" "turn", .meth "World" "above", .meth "World" "up", .meth "World" "found_by", .meth "World" "find", .meth "World" "kinds", .glo "_law_mix", .glo "_law_next", .glo "_law_alike", .glo "_law_world", .glo "_law_up", .glo "_law_find", .glo "_law_word", .glo "_law_change", .glo "_law_kinds", .glo "_law_step", .glo "_law_odd", .glo "_law_does", .glo "_law_is", .glo "law"]
def fa2 : List He.Fa := [.glo "_law_name", .glo "LookError", .glo "_law_kind", .free "Near"]
def fa : List He.Fa := fa0 ++ (fa1 ++ (fa2))
def ex (K : PySem.W.Frag) : Bool := ((true) && hotB K (He.ga K))
abbrev R : PySem.W.OpenRow := PySem.W.OpenLaw.row PySem.Challenge.rw_lookcache_k01_kinds_looked_up
def obX (K : PySem.W.Frag) : He.AlD := ((He.obsD fa fn K).1 && ex K, (He.obsD fa fn K).2)
def SaysX (K : PySem.W.Frag) : Prop := obX K = He.valD fn
structure SaysL (h : Heap) (K : PySem.W.Frag) : Prop where
  c : SaysX K
  hd : PySem.W.codeHdIn K (He.cT K ("_law_is", none)).1 (He.cT K ("_law_is", none)).2 = true
  out : K.lookup (He.cT K ("_law_is", none)).2 = none
  empty : h.get? (He.cT K ("_law_is", none)).2 = some { cls := .none, data := .fields #[] }
def obG (g : Addr → Option Obj) : He.AlD := ((obX (He.frT g (He.asD g 5))).1 && He.tabsB g [("_law_is", none)] (He.frT g (He.asD g 5)), (obX (He.frT g (He.asD g 5))).2)
theorem saysL_of {h : Heap} (e : obG h.get? = He.valD fn) : SaysL h (He.frT h.get? (He.asD h.get? 5)) := by
  have e1 : ((obX (He.frT h.get? (He.asD h.get? 5))).1 && He.tabsB h.get? [("_law_is", none)] (He.frT h.get? (He.asD h.get? 5))) = true := congrArg (fun z : He.AlD => z.1) e
  have e0 : (obG h.get?).2 = (He.valD fn).2 := congrArg Prod.snd e
  have e2 : (obX (He.frT h.get? (He.asD h.get? 5))).2 = (He.valD fn).2 := e0
  obtain ⟨h1, h2⟩ := He.ba e1
  obtain ⟨h3, h4⟩ := He.ba (List.all_eq_true.mp h2 ("_law_is", none) (List.mem_singleton.mpr rfl))
  cases q : h.get? (He.cT (He.frT h.get? (He.asD h.get? 5)) ("_law_is", none)).2 with
  | none =>
    rw [q] at h4
    cases h4
  | some o =>
    rw [q] at h4
    exact ⟨Prod.ext h1 e2, h3, He.frT_none q h4, by rw [q, He.emptyTab_eq h4]⟩
def hk : PySem.W.Hook where
  α := He.AlD
  obs := fun s => obG s.heap.get?
  val := fun _ => He.valD fn
  says := fun _ h => ∃ K : PySem.W.Frag, K.In h ∧ SaysL h K
  of := fun _ _ e => ⟨_, He.frT_in, saysL_of e⟩
  keeps := fun _ _ _ ⟨K, hK, c⟩ k => ⟨K, PySem.W.Frag.In.keeps hK k, c.c, c.hd, c.out, k _ _ c.empty⟩
def ob (s : PySem.W.SharedT) : He.AlD := obG (HandSHeadRun.getT s)
theorem ob_eq (s : PySem.W.SharedT) : ob s = hk.obs s.abs := by
  have e : HandSHeadRun.getT s = s.abs.heap.get? := funext (HandSHeadRun.getT_eq s)
  unfold ob
  rw [e] <;> rfl
theorem SaysX.says {K : PySem.W.Frag} (c : SaysX K) : He.SaysD fa fn K ∧ ex K = true := by
  have c' : obX K = He.valD fn := c
  have h1 : (obX K).1 = true := by rw [c']; rfl
  have h2 : (obX K).2 = (He.valD fn).2 := by rw [c']
  obtain ⟨h3, h4⟩ := He.ba h1
  exact ⟨Prod.ext h3 h2, h4⟩
def ls0 : List PySem.Str := ["LookError", "TooMany", "NoKind", "NoDeed", "NoBody", "Ring", "BadSpots", "BadWide", "BadRule", "NoSpot", "BadText", "MOST_KINDS", "MOST_BODY", "LETTERS", "need_deed", "World", "_law_mix", "_law_next", "_law_alike", "_law_world", "_law_up", "_law_find", "_law_word", "_law_change", "_law_kinds", "_law_step", "_law_odd", "_law_name", "_law_does", "_law_kind"]
def ls1 : List PySem.Str := ["_law_is"]
def ls : List PySem.Str := ls0 ++ (ls1)
theorem run (w : World) : HandSHeadRun.RunEq R (PySem.W.view R.prog [34]) hk ob 9000 ls w := by
  intro os
  kernel_rfl
def GAo (K : PySem.W.Frag) : GA := ⟨He.ga K "World", He.ga K "Near", He.ga K "TooMany", He.ga K "NoKind", He.ga K "NoDeed", He.ga K "NoBody", He.ga K "Ring", He.ga K "BadSpots", He.ga K "BadWide", He.ga K "BadRule", He.ga K "NoSpot", He.ga K "BadText", He.ga K "LookError"⟩
theorem hot_ok {K : PySem.W.Frag} (c : He.SaysD fa fn K ∧ ex K = true) : HotF K (He.ga K) := hotB_ok (andB c.2).2
theorem gd10_ok {K : PySem.W.Frag} (c : He.SaysD fa fn K ∧ ex K = true) : Gd10 (GAo K) := by
  have HF := hot_ok c
  have e : (ten.map (He.ga K)).Nodup := by
    rw [List.nodup_iff_pairwise_ne, List.pairwise_map]
    exact (List.nodup_iff_pairwise_ne.mp (show ten.Nodup by decide +kernel)).imp_of_mem fun hx hy ne e => ne (HF.inj _ hx _ hy e)
  exact e
theorem nm_ok {P : Program} {w : World} {K : PySem.W.Frag} {h : Heap} {mg : Str → Option Value} {base : Heap} {k : Nat} (X : K.In h) (G : h.Ns mainGlobals mg) (c : He.SaysD fa fn K ∧ ex K = true) : NmOk P w K mg base (k + 1) (GAo K).eLookError (tblG (GAo K)) := by
  obtain ⟨fd, F⟩ := c.1.def_ 27 (d := dnm) rfl
  have HF := hot_ok c
  have n_ValueError : mg ("ValueError" : Str) = none := He.free_ok X G (c.1.fact 6 rfl)
  have n_isinstance : mg ("isinstance" : Str) = none := He.free_ok X G (c.1.fact 9 rfl)
  have q_BadRule : mg ("BadRule" : Str) = some (.ref (GAo K).eBadRule) := He.glo_ok X G (c.1.fact 17 rfl)
  have q_BadSpots : mg ("BadSpots" : Str) = some (.ref (GAo K).eBadSpots) := He.glo_ok X G (c.1.fact 18 rfl)
  have q_BadText : mg ("BadText" : Str) = some (.ref (GAo K).eBadText) := He.glo_ok X G (c.1.fact 19 rfl)
  have q_BadWide : mg ("BadWide" : Str) = some (.ref (GAo K).eBadWide) := He.glo_ok X G (c.1.fact 20 rfl)
  have q_NoBody : mg ("NoBody" : Str) = some (.ref (GAo K).eNoBody) := He.glo_ok X G (c.1.fact 21 rfl)
  have q_NoDeed : mg ("NoDeed" : Str) = some (.ref (GAo K).eNoDeed) := He.glo_ok X G (c.1.fact 22 rfl)
  have q_NoKind : mg ("NoKind" : Str) = some (.ref (GAo K).eNoKind) := He.glo_ok X G (c.1.fact 23 rfl)
  have q_NoSpot : mg ("NoSpot" : Str) = some (.ref (GAo K).eNoSpot) := He.glo_ok X G (c.1.fact 24 rfl)
  have q_Ring : mg ("Ring" : Str) = some (.ref (GAo K).eRing) := He.glo_ok X G (c.1.fact 25 rfl)
  have q_TooMany : mg ("TooMany" : Str) = some (.ref (GAo K).eTooMany) := He.glo_ok X G (c.1.fact 26 rfl)
  refine ⟨⟨He.fAd K dnm.at_, fd, "_law_e", He.glo_ok X G (c.1.fact 60 rfl), F.kp, F.bindsN (ps := ["_law_e"]) (fun _ _ _ _ _ _ us hl => match us, hl with | [_], _ => rfl), fun A outer s H args Q p C nm L rh hr ask hC pin e0 hb hQ => ?_⟩, fun C nm hC => ?_, He.glo_ok X G (c.1.fact 61 rfl)⟩
  · refine nm_run (cl := ten.map (He.ga K)) F K01.sc_l_name rfl (fun cdv A outer s H p C nm ask hC hr => ?_) (fun C nm a L hC => ?_) rh hr ask hC pin e0 hb hQ
    · obtain ⟨hn, rfl⟩ := tbl_in (l := ten) (ad := He.ga K) (show (ten.map fun x => (He.ga K x, x)).lookup C = some nm from hC)
      exact K01.nm_x (G := GAo K) n_ValueError n_isinstance q_BadRule q_BadSpots q_BadText q_BadWide q_NoBody q_NoDeed q_NoKind q_NoSpot q_Ring q_TooMany ask (HF.ec _ hn) hr
    · obtain ⟨hn, rfl⟩ := tbl_in (l := ten) (ad := He.ga K) (show (ten.map fun x => (He.ga K x, x)).lookup C = some nm from hC)
      exact nmB_sem HF hn ⟨rfl, rfl⟩
  · obtain ⟨hn, rfl⟩ := tbl_in (l := ten) (ad := He.ga K) (show (ten.map fun x => (He.ga K x, x)).lookup C = some nm from hC)
    exact HF.lk _ hn
structure Al (P : Program) (w : World) (K : PySem.W.Frag) (mg : Str → Option Value) (base : Heap) (n k : Nat) : Prop where
  a0 : FnL P w K mg base k (He.fAd K d0.at_) 1 (cwk (GAo K) n .need_deed)
  a1 : FnL P w K mg base k (He.fAd K d1.at_) 1 (cwk (GAo K) n .World_init)
  a2 : FnL P w K mg base k (He.fAd K d2.at_) 2 (cwk (GAo K) n .World_need_kind)
  a3 : FnL P w K mg base k (He.fAd K d3.at_) 2 (cwk (GAo K) n .World_need_elder)
  a4 : FnL P w K mg base k (He.fAd K d4.at_) 2 (cwk (GAo K) n .World_add)
  a5 : FnL P w K mg base k (He.fAd K d5.at_) 4 (cwk (GAo K) n .World_put)
  a6 : FnL P w K mg base k (He.fAd K d6.at_) 3 (cwk (GAo K) n .World_drop)
  a7 : FnL P w K mg base k (He.fAd K d7.at_) 3 (cwk (GAo K) n .World_turn)
  a8 : FnL P w K mg base k (He.fAd K d8.at_) 2 (cwk (GAo K) n .World_above)
  a9 : FnL P w K mg base k (He.fAd K d9.at_) 2 (cwk (GAo K) n .World_up)
  a10 : FnL P w K mg base k (He.fAd K d10.at_) 3 (cwk (GAo K) n .World_found_by)
  a11 : FnL P w K mg base k (He.fAd K d11.at_) 3 (cwk (GAo K) n .World_find)
  a12 : FnL P w K mg base k (He.fAd K d12.at_) 1 (cwk (GAo K) n .World_kinds)
  a13 : FnL P w K mg base k (He.fAd K d13.at_) 2 (cwk (GAo K) n .l_mix)
  a14 : FnL P w K mg base k (He.fAd K d14.at_) 2 (cwk (GAo K) n .l_next)
  a15 : FnL P w K mg base k (He.fAd K d15.at_) 2 (cwk (GAo K) n .l_alike)
  a16 : FnL P w K mg base k (He.fAd K d16.at_) 0 (cwk (GAo K) n .l_world)
  a17 : FnL P w K mg base k (He.fAd K d17.at_) 2 (cwk (GAo K) n .l_up)
  a18 : FnL P w K mg base k (He.fAd K d18.at_) 3 (cwk (GAo K) n .l_find)
  a19 : FnL P w K mg base k (He.fAd K d19.at_) 2 (cwk (GAo K) n .l_word)
  a20 : FnL P w K mg base k (He.fAd K d20.at_) 2 (cwk (GAo K) n .l_change)
  a21 : FnL P w K mg base k (He.fAd K d21.at_) 1 (cwk (GAo K) n .l_kinds)
  a22 : FnL P w K mg base k (He.fAd K d22.at_) 2 (cwk (GAo K) n .l_step)
  a23 : FnL P w K mg base k (He.fAd K d23.at_) 2 (cwk (GAo K) n .l_odd)
  a24 : FnL P w K mg base k (He.fAd K d24.at_) 2 (cwk (GAo K) n .l_does)
theorem fnl_no {P : Program} {w : World} {K : PySem.W.Frag} {mg : Str → Option Value} {base : Heap} {k n : Nat} {f : Addr} {fd : FuncData} {x q : Str} {pa : Arguments} {bd : List Stmt} {sc : Scope} {ps : List Str} (F : FunD K x q pa bd sc [] [] f fd) (b : Binds K fd ps []) (hn : ps.length = n) : FnL P w K mg base k f n (fun _ _ _ _ => False) :=
  ⟨⟨fd, ps, hn, ⟨fun _ _ _ _ h => by obtain ⟨_, _, _, _, _, _, _, _, _, z⟩ := h; exact z.elim, fun _ _ _ _ _ _ _ _ _ _ _ _ _ h => by obtain ⟨_, _, _, _, _, _, _, _, _, z⟩ := h; exact z.elim⟩, b⟩, F.kp⟩
section
variable {P : Program} {w : World} {K : PySem.W.Frag} {h : Heap} {mg : Str → Option Value}
theorem all0 (base : Heap) (c : He.SaysD fa fn K ∧ ex K = true) : Al P w K mg base 0 0 := by
  obtain ⟨fd0, F0⟩ := c.1.def_ 0 (d := d0) rfl
  obtain ⟨fd1, F1⟩ := c.1.def_ 1 (d := d1) rfl
  obtain ⟨fd2, F2⟩ := c.1.def_ 2 (d := d2) rfl
  obtain ⟨fd3, F3⟩ := c.1.def_ 3 (d := d3) rfl
  obtain ⟨fd4, F4⟩ := c.1.def_ 4 (d := d4) rfl
  obtain ⟨fd5, F5⟩ := c.1.def_ 5 (d := d5) rfl
  obtain ⟨fd6, F6⟩ := c.1.def_ 6 (d := d6) rfl
  obtain ⟨fd7, F7⟩ := c.1.def_ 7 (d := d7) rfl
  obtain ⟨fd8, F8⟩ := c.1.def_ 8 (d := d8) rfl
  obtain ⟨fd9, F9⟩ := c.1.def_ 9 (d := d9) rfl
  obtain ⟨fd10, F10⟩ := c.1.def_ 10 (d := d10) rfl
  obtain ⟨fd11, F11⟩ := c.1.def_ 11 (d := d11) rfl
  obtain ⟨fd12, F12⟩ := c.1.def_ 12 (d := d12) rfl
  obtain ⟨fd13, F13⟩ := c.1.def_ 13 (d := d13) rfl
  obtain ⟨fd14, F14⟩ := c.1.def_ 14 (d := d14) rfl
  obtain ⟨fd15, F15⟩ := c.1.def_ 15 (d := d15) rfl
  obtain ⟨fd16, F16⟩ := c.1.def_ 16 (d := d16) rfl
  obtain ⟨fd17, F17⟩ := c.1.def_ 17 (d := d17) rfl
  obtain ⟨fd18, F18⟩ := c.1.def_ 18 (d := d18) rfl
  obtain ⟨fd19, F19⟩ := c.1.def_ 19 (d := d19) rfl
  obtain ⟨fd20, F20⟩ := c.1.def_ 20 (d := d20) rfl
  obtain ⟨fd21, F21⟩ := c.1.def_ 21 (d := d21) rfl
  obtain ⟨fd22, F22⟩ := c.1.def_ 22 (d := d22) rfl
  obtain ⟨fd23, F23⟩ := c.1.def_ 23 (d := d23) rfl
  obtain ⟨fd24, F24⟩ := c.1.def_ 24 (d := d24) rfl
  obtain ⟨fd25, F25⟩ := c.1.def_ 25 (d := d25) rfl
  obtain ⟨fd26, F26⟩ := c.1.def_ 26 (d := d26) rfl
  exact ⟨
    fnl_no F0 (F0.bindsN (ps := ["deed"]) fun _ _ _ _ _ _ us hl => match us, hl with | [_], _ => rfl) rfl,
    fnl_no F1 (F1.bindsN (ps := ["self"]) fun _ _ _ _ _ _ us hl => match us, hl with | [_], _ => rfl) rfl,
    fnl_no F2 (F2.bindsN (ps := ["self", "kind"]) fun _ _ _ _ _ _ us hl => match us, hl with | [_, _], _ => rfl) rfl,
    fnl_no F3 (F3.bindsN (ps := ["self", "elder"]) fun _ _ _ _ _ _ us hl => match us, hl with | [_, _], _ => rfl) rfl,
    fnl_no F4 (F4.bindsN (ps := ["self", "elder"]) fun _ _ _ _ _ _ us hl => match us, hl with | [_, _], _ => rfl) rfl,
    fnl_no F5 (F5.bindsN (ps := ["self", "kind", "deed", "body"]) fun _ _ _ _ _ _ us hl => match us, hl with | [_, _, _, _], _ => rfl) rfl,
    fnl_no F6 (F6.bindsN (ps := ["self", "kind", "deed"]) fun _ _ _ _ _ _ us hl => match us, hl with | [_, _, _], _ => rfl) rfl,
    fnl_no F7 (F7.bindsN (ps := ["self", "kind", "elder"]) fun _ _ _ _ _ _ us hl => match us, hl with | [_, _, _], _ => rfl) rfl,
    fnl_no F8 (F8.bindsN (ps := ["self", "kind"]) fun _ _ _ _ _ _ us hl => match us, hl with | [_, _], _ => rfl) rfl,
    fnl_no F9 (F9.bindsN (ps := ["self", "kind"]) fun _ _ _ _ _ _ us hl => match us, hl with | [_, _], _ => rfl) rfl,
    fnl_no F10 (F10.bindsN (ps := ["self", "kind", "deed"]) fun _ _ _ _ _ _ us hl => match us, hl with | [_, _, _], _ => rfl) rfl,
    fnl_no F11 (F11.bindsN (ps := ["self", "kind", "deed"]) fun _ _ _ _ _ _ us hl => match us, hl with | [_, _, _], _ => rfl) rfl,
    fnl_no F12 (F12.bindsN (ps := ["self"]) fun _ _ _ _ _ _ us hl => match us, hl with | [_], _ => rfl) rfl,
    fnl_no F13 (F13.bindsN (ps := ["_law_script", "_law_seed"]) fun _ _ _ _ _ _ us hl => match us, hl with | [_, _], _ => rfl) rfl,
    fnl_no F14 (F14.bindsN (ps := ["_law_h", "_law_many"]) fun _ _ _ _ _ _ us hl => match us, hl with | [_, _], _ => rfl) rfl,
    fnl_no F15 (F15.bindsN (ps := ["_law_found", "_law_due"]) fun _ _ _ _ _ _ us hl => match us, hl with | [_, _], _ => rfl) rfl,
    fnl_no F16 (F16.bindsN (ps := []) fun _ _ _ _ _ _ us hl => match us, hl with | [], _ => rfl) rfl,
    fnl_no F17 (F17.bindsN (ps := ["_law_w", "_law_kind_here"]) fun _ _ _ _ _ _ us hl => match us, hl with | [_, _], _ => rfl) rfl,
    fnl_no F18 (F18.bindsN (ps := ["_law_w", "_law_kind_here", "_law_deed"]) fun _ _ _ _ _ _ us hl => match us, hl with | [_, _, _], _ => rfl) rfl,
    fnl_no F19 (F19.bindsN (ps := ["_law_w", "_law_step_here"]) fun _ _ _ _ _ _ us hl => match us, hl with | [_, _], _ => rfl) rfl,
    fnl_no F20 (F20.bindsN (ps := ["_law_w", "_law_step_here"]) fun _ _ _ _ _ _ us hl => match us, hl with | [_, _], _ => rfl) rfl,
    fnl_no F21 (F21.bindsN (ps := ["_law_w"]) fun _ _ _ _ _ _ us hl => match us, hl with | [_], _ => rfl) rfl,
    fnl_no F22 (F22.bindsN (ps := ["_law_h", "_law_w"]) fun _ _ _ _ _ _ us hl => match us, hl with | [_, _], _ => rfl) rfl,
    fnl_no F23 (F23.bindsN (ps := ["_law_h", "_law_w"]) fun _ _ _ _ _ _ us hl => match us, hl with | [_, _], _ => rfl) rfl,
    fnl_no F24 (F24.bindsN (ps := ["_law_near", "_law_step_here"]) fun _ _ _ _ _ _ us hl => match us, hl with | [_, _], _ => rfl) rfl⟩
theorem alls {base : Heap} {n k : Nat} (X : K.In h) (G : h.Ns mainGlobals mg) (c : He.SaysD fa fn K ∧ ex K = true) (A : Al P w K mg base n k) : Al P w K mg base (n + 1) (k + 2) := by
  obtain ⟨fd0, F0⟩ := c.1.def_ 0 (d := d0) rfl
  obtain ⟨fd1, F1⟩ := c.1.def_ 1 (d := d1) rfl
  obtain ⟨fd2, F2⟩ := c.1.def_ 2 (d := d2) rfl
  obtain ⟨fd3, F3⟩ := c.1.def_ 3 (d := d3) rfl
  obtain ⟨fd4, F4⟩ := c.1.def_ 4 (d := d4) rfl
  obtain ⟨fd5, F5⟩ := c.1.def_ 5 (d := d5) rfl
  obtain ⟨fd6, F6⟩ := c.1.def_ 6 (d := d6) rfl
  obtain ⟨fd7, F7⟩ := c.1.def_ 7 (d := d7) rfl
  obtain ⟨fd8, F8⟩ := c.1.def_ 8 (d := d8) rfl
  obtain ⟨fd9, F9⟩ := c.1.def_ 9 (d := d9) rfl
  obtain ⟨fd10, F10⟩ := c.1.def_ 10 (d := d10) rfl
  obtain ⟨fd11, F11⟩ := c.1.def_ 11 (d := d11) rfl
  obtain ⟨fd12, F12⟩ := c.1.def_ 12 (d := d12) rfl
  obtain ⟨fd13, F13⟩ := c.1.def_ 13 (d := d13) rfl
  obtain ⟨fd14, F14⟩ := c.1.def_ 14 (d := d14) rfl
  obtain ⟨fd15, F15⟩ := c.1.def_ 15 (d := d15) rfl
  obtain ⟨fd16, F16⟩ := c.1.def_ 16 (d := d16) rfl
  obtain ⟨fd17, F17⟩ := c.1.def_ 17 (d := d17) rfl
  obtain ⟨fd18, F18⟩ := c.1.def_ 18 (d := d18) rfl
  obtain ⟨fd19, F19⟩ := c.1.def_ 19 (d := d19) rfl
  obtain ⟨fd20, F20⟩ := c.1.def_ 20 (d := d20) rfl
  obtain ⟨fd21, F21⟩ := c.1.def_ 21 (d := d21) rfl
  obtain ⟨fd22, F22⟩ := c.1.def_ 22 (d := d22) rfl
  obtain ⟨fd23, F23⟩ := c.1.def_ 23 (d := d23) rfl
  obtain ⟨fd24, F24⟩ := c.1.def_ 24 (d := d24) rfl
  obtain ⟨fd25, F25⟩ := c.1.def_ 25 (d := d25) rfl
  obtain ⟨fd26, F26⟩ := c.1.def_ 26 (d := d26) rfl
  have a_elders : L2.NoAttr K (GAo K).cW ("elders" : Str) := He.noat_ok (c.1.fact 0 rfl)
  have a_own : L2.NoAttr K (GAo K).cW ("own" : Str) := He.noat_ok (c.1.fact 1 rfl)
  have c_W : L2.Cls K (GAo K).cW := He.cls_ok (c.1.fact 2 rfl)
  have g_LETTERS : ∃ t, mg ("LETTERS" : Str) = some (.str "abcdef" t) := He.str_ok X G (c.1.fact 3 rfl)
  have g_MOST_BODY : ∃ t, mg ("MOST_BODY" : Str) = some (.int 99 t) := He.int_ok X G (c.1.fact 4 rfl)
  have g_MOST_KINDS : ∃ t, mg ("MOST_KINDS" : Str) = some (.int 12 t) := He.int_ok X G (c.1.fact 5 rfl)
  have n_ValueError : mg ("ValueError" : Str) = none := He.free_ok X G (c.1.fact 6 rfl)
  have n_bool : mg ("bool" : Str) = none := He.free_ok X G (c.1.fact 7 rfl)
  have n_int : mg ("int" : Str) = none := He.free_ok X G (c.1.fact 8 rfl)
  have n_isinstance : mg ("isinstance" : Str) = none := He.free_ok X G (c.1.fact 9 rfl)
  have n_len : mg ("len" : Str) = none := He.free_ok X G (c.1.fact 10 rfl)
  have n_list : mg ("list" : Str) = none := He.free_ok X G (c.1.fact 11 rfl)
  have n_max : mg ("max" : Str) = none := He.free_ok X G (c.1.fact 12 rfl)
  have n_range : mg ("range" : Str) = none := He.free_ok X G (c.1.fact 13 rfl)
  have n_sorted : mg ("sorted" : Str) = none := He.free_ok X G (c.1.fact 14 rfl)
  have n_str : mg ("str" : Str) = none := He.free_ok X G (c.1.fact 15 rfl)
  have n_tuple : mg ("tuple" : Str) = none := He.free_ok X G (c.1.fact 16 rfl)
  have nm : NmOk P w K mg base (k + 1) (GAo K).eLookError (tblG (GAo K)) := nm_ok X G c
  have q_BadRule : mg ("BadRule" : Str) = some (.ref (GAo K).eBadRule) := He.glo_ok X G (c.1.fact 17 rfl)
  have q_BadSpots : mg ("BadSpots" : Str) = some (.ref (GAo K).eBadSpots) := He.glo_ok X G (c.1.fact 18 rfl)
  have q_BadText : mg ("BadText" : Str) = some (.ref (GAo K).eBadText) := He.glo_ok X G (c.1.fact 19 rfl)
  have q_BadWide : mg ("BadWide" : Str) = some (.ref (GAo K).eBadWide) := He.glo_ok X G (c.1.fact 20 rfl)
  have q_NoBody : mg ("NoBody" : Str) = some (.ref (GAo K).eNoBody) := He.glo_ok X G (c.1.fact 21 rfl)
  have q_NoDeed : mg ("NoDeed" : Str) = some (.ref (GAo K).eNoDeed) := He.glo_ok X G (c.1.fact 22 rfl)
  have q_NoKind : mg ("NoKind" : Str) = some (.ref (GAo K).eNoKind) := He.glo_ok X G (c.1.fact 23 rfl)
  have q_NoSpot : mg ("NoSpot" : Str) = some (.ref (GAo K).eNoSpot) := He.glo_ok X G (c.1.fact 24 rfl)
  have q_Ring : mg ("Ring" : Str) = some (.ref (GAo K).eRing) := He.glo_ok X G (c.1.fact 25 rfl)
  have q_TooMany : mg ("TooMany" : Str) = some (.ref (GAo K).eTooMany) := He.glo_ok X G (c.1.fact 26 rfl)
  have x_NoBody : ExF K mg ("NoBody" : Str) (GAo K).eNoBody := (let e := He.exc_ok (c.1.fact 27 rfl); ⟨e.1, He.glo_ok X G (c.1.fact 21 rfl), e.2.1, e.2.2.1, e.2.2.2⟩)
  have x_NoDeed : ExF K mg ("NoDeed" : Str) (GAo K).eNoDeed := (let e := He.exc_ok (c.1.fact 28 rfl); ⟨e.1, He.glo_ok X G (c.1.fact 22 rfl), e.2.1, e.2.2.1, e.2.2.2⟩)
  have x_NoKind : ExF K mg ("NoKind" : Str) (GAo K).eNoKind := (let e := He.exc_ok (c.1.fact 29 rfl); ⟨e.1, He.glo_ok X G (c.1.fact 23 rfl), e.2.1, e.2.2.1, e.2.2.2⟩)
  have x_Ring : ExF K mg ("Ring" : Str) (GAo K).eRing := (let e := He.exc_ok (c.1.fact 30 rfl); ⟨e.1, He.glo_ok X G (c.1.fact 25 rfl), e.2.1, e.2.2.1, e.2.2.2⟩)
  have x_TooMany : ExF K mg ("TooMany" : Str) (GAo K).eTooMany := (let e := He.exc_ok (c.1.fact 31 rfl); ⟨e.1, He.glo_ok X G (c.1.fact 26 rfl), e.2.1, e.2.2.1, e.2.2.2⟩)
  have f_need_deed : GFn P w K mg base k ("need_deed" : Str) 1 (cwk (GAo K) n .need_deed) := ⟨_, He.glo_ok X G (c.1.fact 32 rfl), A.a0⟩
  have m_World : KFn P w K mg base k ("World" : Str) (GAo K).cW 0 (cwk (GAo K) n .World_init) := ⟨_, He.glo_ok X G (c.1.fact 34 rfl), He.mkr_ok (c.1.fact 33 rfl), A.a1⟩
  have f_World_need_kind : MFn P w K mg base k (GAo K).cW ("need_kind" : Str) 1 (cwk (GAo K) n .World_need_kind) := ⟨_, He.cls_ok (c.1.fact 2 rfl), He.meth_ok (c.1.fact 35 rfl), A.a2⟩
  have f_World_need_elder : MFn P w K mg base k (GAo K).cW ("need_elder" : Str) 1 (cwk (GAo K) n .World_need_elder) := ⟨_, He.cls_ok (c.1.fact 2 rfl), He.meth_ok (c.1.fact 36 rfl), A.a3⟩
  have f_World_add : MFn P w K mg base k (GAo K).cW ("add" : Str) 1 (cwk (GAo K) n .World_add) := ⟨_, He.cls_ok (c.1.fact 2 rfl), He.meth_ok (c.1.fact 37 rfl), A.a4⟩
  have f_World_put : MFn P w K mg base k (GAo K).cW ("put" : Str) 3 (cwk (GAo K) n .World_put) := ⟨_, He.cls_ok (c.1.fact 2 rfl), He.meth_ok (c.1.fact 38 rfl), A.a5⟩
  have f_World_drop : MFn P w K mg base k (GAo K).cW ("drop" : Str) 2 (cwk (GAo K) n .World_drop) := ⟨_, He.cls_ok (c.1.fact 2 rfl), He.meth_ok (c.1.fact 39 rfl), A.a6⟩
  have f_World_turn : MFn P w K mg base k (GAo K).cW ("turn" : Str) 2 (cwk (GAo K) n .World_turn) := ⟨_, He.cls_ok (c.1.fact 2 rfl), He.meth_ok (c.1.fact 40 rfl), A.a7⟩
  have f_World_above : MFn P w K mg base k (GAo K).cW ("above" : Str) 1 (cwk (GAo K) n .World_above) := ⟨_, He.cls_ok (c.1.fact 2 rfl), He.meth_ok (c.1.fact 41 rfl), A.a8⟩
  have f_World_up : MFn P w K mg base k (GAo K).cW ("up" : Str) 1 (cwk (GAo K) n .World_up) := ⟨_, He.cls_ok (c.1.fact 2 rfl), He.meth_ok (c.1.fact 42 rfl), A.a9⟩
  have f_World_found_by : MFn P w K mg base k (GAo K).cW ("found_by" : Str) 2 (cwk (GAo K) n .World_found_by) := ⟨_, He.cls_ok (c.1.fact 2 rfl), He.meth_ok (c.1.fact 43 rfl), A.a10⟩
  have f_World_find : MFn P w K mg base k (GAo K).cW ("find" : Str) 2 (cwk (GAo K) n .World_find) := ⟨_, He.cls_ok (c.1.fact 2 rfl), He.meth_ok (c.1.fact 44 rfl), A.a11⟩
  have f_World_kinds : MFn P w K mg base k (GAo K).cW ("kinds" : Str) 0 (cwk (GAo K) n .World_kinds) := ⟨_, He.cls_ok (c.1.fact 2 rfl), He.meth_ok (c.1.fact 45 rfl), A.a12⟩
  have f_l_mix : GFn P w K mg base k ("_law_mix" : Str) 2 (cwk (GAo K) n .l_mix) := ⟨_, He.glo_ok X G (c.1.fact 46 rfl), A.a13⟩
  have f_l_next : GFn P w K mg base k ("_law_next" : Str) 2 (cwk (GAo K) n .l_next) := ⟨_, He.glo_ok X G (c.1.fact 47 rfl), A.a14⟩
  have f_l_alike : GFn P w K mg base k ("_law_alike" : Str) 2 (cwk (GAo K) n .l_alike) := ⟨_, He.glo_ok X G (c.1.fact 48 rfl), A.a15⟩
  have f_l_world : GFn P w K mg base k ("_law_world" : Str) 0 (cwk (GAo K) n .l_world) := ⟨_, He.glo_ok X G (c.1.fact 49 rfl), A.a16⟩
  have f_l_up : GFn P w K mg base k ("_law_up" : Str) 2 (cwk (GAo K) n .l_up) := ⟨_, He.glo_ok X G (c.1.fact 50 rfl), A.a17⟩
  have f_l_find : GFn P w K mg base k ("_law_find" : Str) 3 (cwk (GAo K) n .l_find) := ⟨_, He.glo_ok X G (c.1.fact 51 rfl), A.a18⟩
  have f_l_word : GFn P w K mg base k ("_law_word" : Str) 2 (cwk (GAo K) n .l_word) := ⟨_, He.glo_ok X G (c.1.fact 52 rfl), A.a19⟩
  have f_l_change : GFn P w K mg base k ("_law_change" : Str) 2 (cwk (GAo K) n .l_change) := ⟨_, He.glo_ok X G (c.1.fact 53 rfl), A.a20⟩
  have f_l_kinds : GFn P w K mg base k ("_law_kinds" : Str) 1 (cwk (GAo K) n .l_kinds) := ⟨_, He.glo_ok X G (c.1.fact 54 rfl), A.a21⟩
  have f_l_step : GFn P w K mg base k ("_law_step" : Str) 2 (cwk (GAo K) n .l_step) := ⟨_, He.glo_ok X G (c.1.fact 55 rfl), A.a22⟩
  have f_l_odd : GFn P w K mg base k ("_law_odd" : Str) 2 (cwk (GAo K) n .l_odd) := ⟨_, He.glo_ok X G (c.1.fact 56 rfl), A.a23⟩
  have f_l_does : GFn P w K mg base k ("_law_does" : Str) 2 (cwk (GAo K) n .l_does) := ⟨_, He.glo_ok X G (c.1.fact 57 rfl), A.a24⟩
  exact ⟨
    K01.d_need_deed (G := GAo K) (cw := cwk (GAo K) n) F0 g_LETTERS n_len x_NoDeed,
    K01.d_World_init (G := GAo K) (cw := cwk (GAo K) n) F1 a_elders a_own c_W,
    K01.d_World_need_kind (G := GAo K) (cw := cwk (GAo K) n) F2 a_elders c_W n_len x_NoKind,
    K01.d_World_need_elder (G := GAo K) (cw := cwk (GAo K) n) F3 c_W f_World_need_kind,
    K01.d_World_add (G := GAo K) (cw := cwk (GAo K) n) F4 a_elders a_own c_W f_World_need_elder g_MOST_KINDS n_len x_TooMany,
    K01.d_World_put (G := GAo K) (cw := cwk (GAo K) n) F5 a_own c_W f_World_need_kind f_need_deed g_MOST_BODY x_NoBody,
    K01.d_World_drop (G := GAo K) (cw := cwk (GAo K) n) F6 a_own c_W f_World_need_kind f_need_deed x_NoDeed,
    K01.d_World_turn (G := GAo K) (cw := cwk (GAo K) n) F7 a_elders c_W f_World_above f_World_need_elder f_World_need_kind x_Ring,
    K01.d_World_above (G := GAo K) (cw := cwk (GAo K) n) F8 a_elders c_W,
    K01.d_World_up (G := GAo K) (cw := cwk (GAo K) n) F9 c_W f_World_above f_World_need_kind,
    K01.d_World_found_by (G := GAo K) (cw := cwk (GAo K) n) F10 a_own c_W f_World_above,
    K01.d_World_find (G := GAo K) (cw := cwk (GAo K) n) F11 c_W f_World_found_by f_World_need_kind f_need_deed,
    K01.d_World_kinds (G := GAo K) (cw := cwk (GAo K) n) F12 a_elders a_own c_W n_len n_range n_sorted,
    K01.d_l_mix (G := GAo K) (cw := cwk (GAo K) n) F13 n_list,
    K01.d_l_next (G := GAo K) (cw := cwk (GAo K) n) F14 n_len n_max,
    K01.d_l_alike (G := GAo K) (cw := cwk (GAo K) n) F15 f_l_alike n_bool n_int n_isinstance n_len n_list n_range n_str n_tuple,
    K01.d_l_world (G := GAo K) (cw := cwk (GAo K) n) F16 ,
    K01.d_l_up (G := GAo K) (cw := cwk (GAo K) n) F17 f_l_up,
    K01.d_l_find (G := GAo K) (cw := cwk (GAo K) n) F18 f_l_up,
    K01.d_l_word (G := GAo K) (cw := cwk (GAo K) n) F19 f_l_up n_len n_list n_range,
    K01.d_l_change (G := GAo K) (cw := cwk (GAo K) n) F20 n_len,
    K01.d_l_kinds (G := GAo K) (cw := cwk (GAo K) n) F21 n_len n_range,
    K01.d_l_step (G := GAo K) (cw := cwk (GAo K) n) F22 f_l_next n_int n_len n_max n_sorted,
    K01.d_l_odd (G := GAo K) (cw := cwk (GAo K) n) F23 f_l_next n_len n_max,
    K01.d_l_does (G := GAo K) (cw := cwk (GAo K) n) F24 c_W f_World_add f_World_drop f_World_put f_World_turn nm⟩
theorem ht_ok {K : PySem.W.Frag} (c : He.SaysD fa fn K ∧ ex K = true) : tabK K = [((He.cT K ("_law_is", none)).2, (("_law_is" : Str) ++ ".<locals>.") ++ "<lambda>")] := by
  have h1 : PySem.W.nsIn K mainGlobals "_law_kind" = _ := He.eqO_ok (c.1.fact 62 (f := .glo "_law_kind") rfl)
  have h2 : PySem.W.nsIn K mainGlobals "Near" = _ := He.eqO_ok (c.1.fact 63 (f := .free "Near") rfl)
  unfold tabK lamDef
  rw [h1, h2]
theorem kd_ok (base : Heap) (k : Nat) (X : K.In h) (G : h.Ns mainGlobals mg) (c : He.SaysD fa fn K ∧ ex K = true) : KdOk P w K mg base (k + 2) (GAo K).eLookError (tblG (GAo K)) := by
  obtain ⟨fd, F⟩ := c.1.def_ 28 (d := dkd) rfl
  exact ⟨nm_ok X G c, _, fd, _, _, _, He.glo_ok X G (c.1.fact 62 rfl), F, F.bindsN (ps := ["_law_work"]) (fun _ _ _ _ _ _ us hl => match us, hl with | [_], _ => rfl), K01.sc_l_kind, K01.kb_l_kind, rfl, rfl, rfl, .inl rfl⟩
theorem fnl_mono {P : Program} {w : World} {K : PySem.W.Frag} {mg : Str → Option Value} {base : Heap} {j k n : Nat} {f : Addr} {c : LCall} (F : FnL P w K mg base j f n c) (h : j ≤ k) : FnL P w K mg base k f n c :=
  let ⟨⟨fd, ps, h1, h2, h3⟩, kp⟩ := F; ⟨⟨fd, ps, h1, h2.mono h, h3⟩, kp⟩
theorem alm {base : Heap} {n k j : Nat} (A : Al P w K mg base n j) (h : j ≤ k) : Al P w K mg base n k := ⟨fnl_mono A.a0 h, fnl_mono A.a1 h, fnl_mono A.a2 h, fnl_mono A.a3 h, fnl_mono A.a4 h, fnl_mono A.a5 h, fnl_mono A.a6 h, fnl_mono A.a7 h, fnl_mono A.a8 h, fnl_mono A.a9 h, fnl_mono A.a10 h, fnl_mono A.a11 h, fnl_mono A.a12 h, fnl_mono A.a13 h, fnl_mono A.a14 h, fnl_mono A.a15 h, fnl_mono A.a16 h, fnl_mono A.a17 h, fnl_mono A.a18 h, fnl_mono A.a19 h, fnl_mono A.a20 h, fnl_mono A.a21 h, fnl_mono A.a22 h, fnl_mono A.a23 h, fnl_mono A.a24 h⟩
theorem lamf {base : Heap} {n k : Nat} (X : K.In h) (G : h.Ns mainGlobals mg) (c : He.SaysD fa fn K ∧ ex K = true) (tb : LamX.TabB base mg (He.codeOf K ("_law_is", none)) (He.cT K ("_law_is", none)).2) (A : Al P w K mg base n k) : FnL P w K mg base (k + 4) (He.fAd K d25.at_) 3 (cwk (GAo K) (n + 1) .l_is_k01) := by
  obtain ⟨fd0, F0⟩ := c.1.def_ 0 (d := d0) rfl
  obtain ⟨fd1, F1⟩ := c.1.def_ 1 (d := d1) rfl
  obtain ⟨fd2, F2⟩ := c.1.def_ 2 (d := d2) rfl
  obtain ⟨fd3, F3⟩ := c.1.def_ 3 (d := d3) rfl
  obtain ⟨fd4, F4⟩ := c.1.def_ 4 (d := d4) rfl
  obtain ⟨fd5, F5⟩ := c.1.def_ 5 (d := d5) rfl
  obtain ⟨fd6, F6⟩ := c.1.def_ 6 (d := d6) rfl
  obtain ⟨fd7, F7⟩ := c.1.def_ 7 (d := d7) rfl
  obtain ⟨fd8, F8⟩ := c.1.def_ 8 (d := d8) rfl
  obtain ⟨fd9, F9⟩ := c.1.def_ 9 (d := d9) rfl
  obtain ⟨fd10, F10⟩ := c.1.def_ 10 (d := d10) rfl
  obtain ⟨fd11, F11⟩ := c.1.def_ 11 (d := d11) rfl
  obtain ⟨fd12, F12⟩ := c.1.def_ 12 (d := d12) rfl
  obtain ⟨fd13, F13⟩ := c.1.def_ 13 (d := d13) rfl
  obtain ⟨fd14, F14⟩ := c.1.def_ 14 (d := d14) rfl
  obtain ⟨fd15, F15⟩ := c.1.def_ 15 (d := d15) rfl
  obtain ⟨fd16, F16⟩ := c.1.def_ 16 (d := d16) rfl
  obtain ⟨fd17, F17⟩ := c.1.def_ 17 (d := d17) rfl
  obtain ⟨fd18, F18⟩ := c.1.def_ 18 (d := d18) rfl
  obtain ⟨fd19, F19⟩ := c.1.def_ 19 (d := d19) rfl
  obtain ⟨fd20, F20⟩ := c.1.def_ 20 (d := d20) rfl
  obtain ⟨fd21, F21⟩ := c.1.def_ 21 (d := d21) rfl
  obtain ⟨fd22, F22⟩ := c.1.def_ 22 (d := d22) rfl
  obtain ⟨fd23, F23⟩ := c.1.def_ 23 (d := d23) rfl
  obtain ⟨fd24, F24⟩ := c.1.def_ 24 (d := d24) rfl
  obtain ⟨fd25, F25⟩ := c.1.def_ 25 (d := d25) rfl
  obtain ⟨fd26, F26⟩ := c.1.def_ 26 (d := d26) rfl
  have a_elders : L2.NoAttr K (GAo K).cW ("elders" : Str) := He.noat_ok (c.1.fact 0 rfl)
  have a_own : L2.NoAttr K (GAo K).cW ("own" : Str) := He.noat_ok (c.1.fact 1 rfl)
  have c_W : L2.Cls K (GAo K).cW := He.cls_ok (c.1.fact 2 rfl)
  have g_LETTERS : ∃ t, mg ("LETTERS" : Str) = some (.str "abcdef" t) := He.str_ok X G (c.1.fact 3 rfl)
  have g_MOST_BODY : ∃ t, mg ("MOST_BODY" : Str) = some (.int 99 t) := He.int_ok X G (c.1.fact 4 rfl)
  have g_MOST_KINDS : ∃ t, mg ("MOST_KINDS" : Str) = some (.int 12 t) := He.int_ok X G (c.1.fact 5 rfl)
  have n_ValueError : mg ("ValueError" : Str) = none := He.free_ok X G (c.1.fact 6 rfl)
  have n_bool : mg ("bool" : Str) = none := He.free_ok X G (c.1.fact 7 rfl)
  have n_int : mg ("int" : Str) = none := He.free_ok X G (c.1.fact 8 rfl)
  have n_isinstance : mg ("isinstance" : Str) = none := He.free_ok X G (c.1.fact 9 rfl)
  have n_len : mg ("len" : Str) = none := He.free_ok X G (c.1.fact 10 rfl)
  have n_list : mg ("list" : Str) = none := He.free_ok X G (c.1.fact 11 rfl)
  have n_max : mg ("max" : Str) = none := He.free_ok X G (c.1.fact 12 rfl)
  have n_range : mg ("range" : Str) = none := He.free_ok X G (c.1.fact 13 rfl)
  have n_sorted : mg ("sorted" : Str) = none := He.free_ok X G (c.1.fact 14 rfl)
  have n_str : mg ("str" : Str) = none := He.free_ok X G (c.1.fact 15 rfl)
  have n_tuple : mg ("tuple" : Str) = none := He.free_ok X G (c.1.fact 16 rfl)
  have nm : NmOk P w K mg base (k + 1) (GAo K).eLookError (tblG (GAo K)) := nm_ok X G c
  have q_BadRule : mg ("BadRule" : Str) = some (.ref (GAo K).eBadRule) := He.glo_ok X G (c.1.fact 17 rfl)
  have q_BadSpots : mg ("BadSpots" : Str) = some (.ref (GAo K).eBadSpots) := He.glo_ok X G (c.1.fact 18 rfl)
  have q_BadText : mg ("BadText" : Str) = some (.ref (GAo K).eBadText) := He.glo_ok X G (c.1.fact 19 rfl)
  have q_BadWide : mg ("BadWide" : Str) = some (.ref (GAo K).eBadWide) := He.glo_ok X G (c.1.fact 20 rfl)
  have q_NoBody : mg ("NoBody" : Str) = some (.ref (GAo K).eNoBody) := He.glo_ok X G (c.1.fact 21 rfl)
  have q_NoDeed : mg ("NoDeed" : Str) = some (.ref (GAo K).eNoDeed) := He.glo_ok X G (c.1.fact 22 rfl)
  have q_NoKind : mg ("NoKind" : Str) = some (.ref (GAo K).eNoKind) := He.glo_ok X G (c.1.fact 23 rfl)
  have q_NoSpot : mg ("NoSpot" : Str) = some (.ref (GAo K).eNoSpot) := He.glo_ok X G (c.1.fact 24 rfl)
  have q_Ring : mg ("Ring" : Str) = some (.ref (GAo K).eRing) := He.glo_ok X G (c.1.fact 25 rfl)
  have q_TooMany : mg ("TooMany" : Str) = some (.ref (GAo K).eTooMany) := He.glo_ok X G (c.1.fact 26 rfl)
  have x_NoBody : ExF K mg ("NoBody" : Str) (GAo K).eNoBody := (let e := He.exc_ok (c.1.fact 27 rfl); ⟨e.1, He.glo_ok X G (c.1.fact 21 rfl), e.2.1, e.2.2.1, e.2.2.2⟩)
  have x_NoDeed : ExF K mg ("NoDeed" : Str) (GAo K).eNoDeed := (let e := He.exc_ok (c.1.fact 28 rfl); ⟨e.1, He.glo_ok X G (c.1.fact 22 rfl), e.2.1, e.2.2.1, e.2.2.2⟩)
  have x_NoKind : ExF K mg ("NoKind" : Str) (GAo K).eNoKind := (let e := He.exc_ok (c.1.fact 29 rfl); ⟨e.1, He.glo_ok X G (c.1.fact 23 rfl), e.2.1, e.2.2.1, e.2.2.2⟩)
  have x_Ring : ExF K mg ("Ring" : Str) (GAo K).eRing := (let e := He.exc_ok (c.1.fact 30 rfl); ⟨e.1, He.glo_ok X G (c.1.fact 25 rfl), e.2.1, e.2.2.1, e.2.2.2⟩)
  have x_TooMany : ExF K mg ("TooMany" : Str) (GAo K).eTooMany := (let e := He.exc_ok (c.1.fact 31 rfl); ⟨e.1, He.glo_ok X G (c.1.fact 26 rfl), e.2.1, e.2.2.1, e.2.2.2⟩)
  have f_need_deed : GFn P w K mg base k ("need_deed" : Str) 1 (cwk (GAo K) n .need_deed) := ⟨_, He.glo_ok X G (c.1.fact 32 rfl), A.a0⟩
  have m_World : KFn P w K mg base k ("World" : Str) (GAo K).cW 0 (cwk (GAo K) n .World_init) := ⟨_, He.glo_ok X G (c.1.fact 34 rfl), He.mkr_ok (c.1.fact 33 rfl), A.a1⟩
  have f_World_need_kind : MFn P w K mg base k (GAo K).cW ("need_kind" : Str) 1 (cwk (GAo K) n .World_need_kind) := ⟨_, He.cls_ok (c.1.fact 2 rfl), He.meth_ok (c.1.fact 35 rfl), A.a2⟩
  have f_World_need_elder : MFn P w K mg base k (GAo K).cW ("need_elder" : Str) 1 (cwk (GAo K) n .World_need_elder) := ⟨_, He.cls_ok (c.1.fact 2 rfl), He.meth_ok (c.1.fact 36 rfl), A.a3⟩
  have f_World_add : MFn P w K mg base k (GAo K).cW ("add" : Str) 1 (cwk (GAo K) n .World_add) := ⟨_, He.cls_ok (c.1.fact 2 rfl), He.meth_ok (c.1.fact 37 rfl), A.a4⟩
  have f_World_put : MFn P w K mg base k (GAo K).cW ("put" : Str) 3 (cwk (GAo K) n .World_put) := ⟨_, He.cls_ok (c.1.fact 2 rfl), He.meth_ok (c.1.fact 38 rfl), A.a5⟩
  have f_World_drop : MFn P w K mg base k (GAo K).cW ("drop" : Str) 2 (cwk (GAo K) n .World_drop) := ⟨_, He.cls_ok (c.1.fact 2 rfl), He.meth_ok (c.1.fact 39 rfl), A.a6⟩
  have f_World_turn : MFn P w K mg base k (GAo K).cW ("turn" : Str) 2 (cwk (GAo K) n .World_turn) := ⟨_, He.cls_ok (c.1.fact 2 rfl), He.meth_ok (c.1.fact 40 rfl), A.a7⟩
  have f_World_above : MFn P w K mg base k (GAo K).cW ("above" : Str) 1 (cwk (GAo K) n .World_above) := ⟨_, He.cls_ok (c.1.fact 2 rfl), He.meth_ok (c.1.fact 41 rfl), A.a8⟩
  have f_World_up : MFn P w K mg base k (GAo K).cW ("up" : Str) 1 (cwk (GAo K) n .World_up) := ⟨_, He.cls_ok (c.1.fact 2 rfl), He.meth_ok (c.1.fact 42 rfl), A.a9⟩
  have f_World_found_by : MFn P w K mg base k (GAo K).cW ("found_by" : Str) 2 (cwk (GAo K) n .World_found_by) := ⟨_, He.cls_ok (c.1.fact 2 rfl), He.meth_ok (c.1.fact 43 rfl), A.a10⟩
  have f_World_find : MFn P w K mg base k (GAo K).cW ("find" : Str) 2 (cwk (GAo K) n .World_find) := ⟨_, He.cls_ok (c.1.fact 2 rfl), He.meth_ok (c.1.fact 44 rfl), A.a11⟩
  have f_World_kinds : MFn P w K mg base k (GAo K).cW ("kinds" : Str) 0 (cwk (GAo K) n .World_kinds) := ⟨_, He.cls_ok (c.1.fact 2 rfl), He.meth_ok (c.1.fact 45 rfl), A.a12⟩
  have f_l_mix : GFn P w K mg base k ("_law_mix" : Str) 2 (cwk (GAo K) n .l_mix) := ⟨_, He.glo_ok X G (c.1.fact 46 rfl), A.a13⟩
  have f_l_next : GFn P w K mg base k ("_law_next" : Str) 2 (cwk (GAo K) n .l_next) := ⟨_, He.glo_ok X G (c.1.fact 47 rfl), A.a14⟩
  have f_l_alike : GFn P w K mg base k ("_law_alike" : Str) 2 (cwk (GAo K) n .l_alike) := ⟨_, He.glo_ok X G (c.1.fact 48 rfl), A.a15⟩
  have f_l_world : GFn P w K mg base k ("_law_world" : Str) 0 (cwk (GAo K) n .l_world) := ⟨_, He.glo_ok X G (c.1.fact 49 rfl), A.a16⟩
  have f_l_up : GFn P w K mg base k ("_law_up" : Str) 2 (cwk (GAo K) n .l_up) := ⟨_, He.glo_ok X G (c.1.fact 50 rfl), A.a17⟩
  have f_l_find : GFn P w K mg base k ("_law_find" : Str) 3 (cwk (GAo K) n .l_find) := ⟨_, He.glo_ok X G (c.1.fact 51 rfl), A.a18⟩
  have f_l_word : GFn P w K mg base k ("_law_word" : Str) 2 (cwk (GAo K) n .l_word) := ⟨_, He.glo_ok X G (c.1.fact 52 rfl), A.a19⟩
  have f_l_change : GFn P w K mg base k ("_law_change" : Str) 2 (cwk (GAo K) n .l_change) := ⟨_, He.glo_ok X G (c.1.fact 53 rfl), A.a20⟩
  have f_l_kinds : GFn P w K mg base k ("_law_kinds" : Str) 1 (cwk (GAo K) n .l_kinds) := ⟨_, He.glo_ok X G (c.1.fact 54 rfl), A.a21⟩
  have f_l_step : GFn P w K mg base k ("_law_step" : Str) 2 (cwk (GAo K) n .l_step) := ⟨_, He.glo_ok X G (c.1.fact 55 rfl), A.a22⟩
  have f_l_odd : GFn P w K mg base k ("_law_odd" : Str) 2 (cwk (GAo K) n .l_odd) := ⟨_, He.glo_ok X G (c.1.fact 56 rfl), A.a23⟩
  have f_l_does : GFn P w K mg base k ("_law_does" : Str) 2 (cwk (GAo K) n .l_does) := ⟨_, He.glo_ok X G (c.1.fact 57 rfl), A.a24⟩
  have ht := ht_ok c
  have kd : KdOk P w K mg base (k + 2) (GAo K).eLookError (tblG (GAo K)) := kd_ok base k X G c
  exact K01.d_l_is_k01 (G := GAo K) (cw := cwk (GAo K) n) rfl F25 c_W f_World_find f_World_kinds f_World_up f_l_alike f_l_find f_l_kinds f_l_next f_l_up ht kd n_len n_range tb
theorem lawf {base : Heap} {n k : Nat} {fdL : FuncData} (X : K.In h) (G : h.Ns mainGlobals mg) (c : He.SaysD fa fn K ∧ ex K = true) (FL : FunD K d26.name d26.qual d26.params d26.body d26.scope (d26.dvs K) (d26.kws K) (He.fAd K d26.at_) fdL) (tb : LamX.TabB base mg (He.codeOf K ("_law_is", none)) (He.cT K ("_law_is", none)).2) (A : Al P w K mg base n k) : FnOk P w K mg base (L2N.CX P w) (k + 6) (He.fAd K d26.at_) fdL ["_law_script"] (spL K 1 (cwk (GAo K) (n + 2) .law_k01)) := by
  have L1 := lamf (base := base) X G c tb A
  have A1 : Al P w K mg base (n + 1) (k + 4) := alm (alls X G c A) (by omega)
  have c_W : L2.Cls K (GAo K).cW := He.cls_ok (c.1.fact 2 rfl)
  have n_range : mg ("range" : Str) = none := He.free_ok X G (c.1.fact 13 rfl)
  have m_World : KFn P w K mg base (k + 4) ("World" : Str) (GAo K).cW 0 (cwk (GAo K) (n + 1) .World_init) := ⟨_, He.glo_ok X G (c.1.fact 34 rfl), He.mkr_ok (c.1.fact 33 rfl), A1.a1⟩
  have f_World_kinds : MFn P w K mg base (k + 4) (GAo K).cW ("kinds" : Str) 0 (cwk (GAo K) (n + 1) .World_kinds) := ⟨_, He.cls_ok (c.1.fact 2 rfl), He.meth_ok (c.1.fact 45 rfl), A1.a12⟩
  have f_l_mix : GFn P w K mg base (k + 4) ("_law_mix" : Str) 2 (cwk (GAo K) (n + 1) .l_mix) := ⟨_, He.glo_ok X G (c.1.fact 46 rfl), A1.a13⟩
  have f_l_next : GFn P w K mg base (k + 4) ("_law_next" : Str) 2 (cwk (GAo K) (n + 1) .l_next) := ⟨_, He.glo_ok X G (c.1.fact 47 rfl), A1.a14⟩
  have f_l_alike : GFn P w K mg base (k + 4) ("_law_alike" : Str) 2 (cwk (GAo K) (n + 1) .l_alike) := ⟨_, He.glo_ok X G (c.1.fact 48 rfl), A1.a15⟩
  have f_l_world : GFn P w K mg base (k + 4) ("_law_world" : Str) 0 (cwk (GAo K) (n + 1) .l_world) := ⟨_, He.glo_ok X G (c.1.fact 49 rfl), A1.a16⟩
  have f_l_word : GFn P w K mg base (k + 4) ("_law_word" : Str) 2 (cwk (GAo K) (n + 1) .l_word) := ⟨_, He.glo_ok X G (c.1.fact 52 rfl), A1.a19⟩
  have f_l_change : GFn P w K mg base (k + 4) ("_law_change" : Str) 2 (cwk (GAo K) (n + 1) .l_change) := ⟨_, He.glo_ok X G (c.1.fact 53 rfl), A1.a20⟩
  have f_l_step : GFn P w K mg base (k + 4) ("_law_step" : Str) 2 (cwk (GAo K) (n + 1) .l_step) := ⟨_, He.glo_ok X G (c.1.fact 55 rfl), A1.a22⟩
  have f_l_odd : GFn P w K mg base (k + 4) ("_law_odd" : Str) 2 (cwk (GAo K) (n + 1) .l_odd) := ⟨_, He.glo_ok X G (c.1.fact 56 rfl), A1.a23⟩
  have f_l_does : GFn P w K mg base (k + 4) ("_law_does" : Str) 2 (cwk (GAo K) (n + 1) .l_does) := ⟨_, He.glo_ok X G (c.1.fact 57 rfl), A1.a24⟩
  have f_l_is_k01 : GFn P w K mg base (k + 4) "_law_is" 3 (cwk (GAo K) (n + 1) .l_is_k01) := ⟨_, He.glo_ok X G (c.1.fact 58 rfl), L1⟩
  exact K01.e_law_k01 (G := GAo K) (cw := cwk (GAo K) (n + 1)) FL c_W f_World_kinds f_l_alike f_l_change f_l_does f_l_is_k01 f_l_mix f_l_next f_l_odd f_l_step f_l_word f_l_world m_World n_range
theorem alln {base : Heap} (X : K.In h) (G : h.Ns mainGlobals mg) (c : He.SaysD fa fn K ∧ ex K = true) : ∀ n, Al P w K mg base n (2 * n)
  | 0 => all0 base c
  | n + 1 => by
    obtain ⟨fd, F⟩ := c.1.def_ 26 (d := d26) rfl
    exact alls X G c (alln X G c n)
end
theorem facts {P : Program} {w : World} {K : PySem.W.Frag} {h : Heap} {mg : Str → Option Value} {f : Addr} (X : K.In h) (G : h.Ns mainGlobals mg) (hfa : mg ("law" : Str) = some (.ref f)) (c : He.SaysD fa fn K ∧ ex K = true) :
    ∃ fd : FuncData, (∀ (s : Shared) (v : Value), BindsTo s fd ⟨[v], []⟩ [("_law_script", v)]) ∧ ∀ base : Heap, K.In base → base.Ns mainGlobals mg → LamX.TabB base mg (He.codeOf K ("_law_is", none)) (He.cT K ("_law_is", none)).2 → FnOk P w K mg base (L2N.CX P w) 62 f fd ["_law_script"] (spL K 1 (cwk (GAo K) 30 .law_k01)) := by
  obtain ⟨fd, F⟩ := c.1.def_ 26 (d := d26) rfl
  have e := hfa.symm.trans (He.glo_ok X G (c.1.fact 59 (f := .glo "law") rfl))
  cases e
  have b := FunD.bindsA (ps := ["_law_script"]) F fun _ _ _ _ _ _ us hl => match us, hl with | [_], _ => rfl
  refine ⟨fd, fun s v => b s [v] rfl, fun base _ _ tb => ?_⟩
  exact (lawf (P := P) (w := w) (base := base) X G c F tb (alln X G c 28)).mono (by omega)
theorem spec {K : PySem.W.Frag} {H : Hp} {a : Addr} {ns : List Int} (gd : Gd10 (GAo K)) (t1 : tabK K = [((He.cT K ("_law_is", none)).2, (("_law_is" : Str) ++ ".<locals>.") ++ "<lambda>")]) (hP : H (He.cT K ("_law_is", none)).2 = some (.tbl #[])) (hS : SqL K H a (ns.map V.int)) : spL K 1 (cwk (GAo K) 30 .law_k01) [.ref a] H (fun v _ => v = .bl true) fun _ _ _ => False := by
  refine ⟨rfl, [.wl (ns.map LV.int)], fun _ => none, fun v _ => v = .bl true, fun _ _ => False, ⟨fun _ _ e => (nomatch e), fun p hp => by rw [t1] at hp; rw [List.mem_singleton.mp hp]; exact LamX.TabS.nil hP, fun _ _ => rfl⟩, .cons ?_ .nil, fun l L' v H' r y rv e => ?_, fun _ _ _ _ _ _ _ _ _ z => z.elim, ?_⟩
  · unfold RV
    refine ⟨a, _, rfl, ?_, .of_ints⟩
    rcases hS with z | z
    · exact .inl ⟨rfl, z⟩
    · exact .inr z
  · rw [e] at rv
    exact rv.bl_inv
  · exact law_k01_s gd (by omega) fun _ => rfl
def CXU (P : Program) : CXT := fun outer H s E u s' => ∃ w, L2N.CX P w outer H s E u s'
theorem fnk_u {P : Program} {w : World} {K : PySem.W.Frag} {mg : Str → Option Value} {base : Heap} {k : Nat} {f : Addr} {fd : FuncData} {ps : List Str} {sp : Sp} (F : FnOk P w K mg base (L2N.CX P w) k f fd ps sp) : FnOk P w K mg base (CXU P) k f fd ps sp :=
  ⟨F.len, fun A outer s H args us vs Q E hr he hb hv hs => codeAny_mono (F.run A outer s H args us vs Q E hr he hb hv hs) fun r s' x => by
    cases r with
    | ok v => cases v <;> exact x
    | error e => exact ⟨w, x⟩⟩
theorem cx0 {P : Program} {H : Hp} {s : Shared} {e : Value} {s' : Shared} (x : CXU P [] H s (fun _ _ _ => False) e s') : False := by
  obtain ⟨w, x⟩ := x
  obtain ⟨_, _, _, _, _, _, _, _, _, _, _, _, _, z⟩ := x
end K01A
end LK
open PySem PySem.W PySem.Calls PyProof.Rows
theorem PySem.Challenge.cw_lookcache_k01_kinds_looked_up_holds : PySem.Challenge.rw_lookcache_k01_kinds_looked_up.Holds := by
  w_on; o_law
  refine HandSHeadRun.head_any (r := OpenLaw.row PySem.Challenge.rw_lookcache_k01_kinds_looked_up) (q := view (OpenLaw.row PySem.Challenge.rw_lookcache_k01_kinds_looked_up).prog [34]) (H := LK.K01A.hk) (ob := LK.K01A.ob) (M := 9000) (loose := LK.K01A.ls) (d := HandSHeadRun.topDef (OpenLaw.row PySem.Challenge.rw_lookcache_k01_kinds_looked_up).prog 34) (kwd := []) LK.K01A.ob_eq
    (by kernel_rfl) (fun s => by kernel_rfl) LK.K01A.run (by kernel_rfl) (by kernel_rfl) (by kernel_rfl) (by rfl) (by first | assumption | decide +kernel) (by decide +kernel) ⟨rfl, rfl, rfl, rfl, rfl, by decide +kernel⟩ ?hw ?hc
  case hw => w_witness2
  case hc =>
    refine LamX.walk_ofTsE (l := PySem.Challenge.rw_lookcache_k01_kinds_looked_up) (n := 63) (k := 62) (x := "_law_script") (CX := fun _ => LK.K01A.CXU (PySem.Challenge.rw_lookcache_k01_kinds_looked_up).prog) rfl (by decide) (by kernel_rfl) ⟨rfl, by decide, by decide⟩ ?F ?G
    · intro w mg fa h Y G hmg0
      obtain ⟨K, KX, c⟩ := Y
      have hmg : mg ("law" : PySem.Str) = some (.ref fa) := by
        have e : (HandSHeadRun.topDef (OpenLaw.row PySem.Challenge.rw_lookcache_k01_kinds_looked_up).prog 34).name = ("law" : PySem.Str) := by kernel_rfl
        rw [← e]
        exact hmg0
      obtain ⟨fd, hb, hF⟩ := LK.K01A.facts (P := (PySem.Challenge.rw_lookcache_k01_kinds_looked_up).prog) (w := w) KX G hmg c.c.says
      refine ⟨K, KX, fd, [He.cT K ("_law_is", none)], _, fun p hp => ?_, fun p hp => ?_, fun p hp => ?_, hb, fun H a ns hl _ hT hS => LK.K01A.spec (LK.K01A.gd10_ok c.c.says) (LK.K01A.ht_ok c.c.says) (hT _ (List.mem_singleton.mpr rfl)) hS, fun base h1 h2 h3 => LK.K01A.fnk_u (hF base h1 h2 (h3 _ (List.mem_singleton.mpr rfl)))⟩
      · rw [List.mem_singleton.mp hp]; exact c.empty
      · rw [List.mem_singleton.mp hp]; exact c.out
      · rw [List.mem_singleton.mp hp]; exact PySem.W.codeHd_of_K KX c.hd
    · exact fun w H s e s' z => LK.K01A.cx0 z
